/- Package leaf: rises, Right, bytes. -/
import Derived.Test.YtiokdpnhaemciaaWkO
import Derived.Test.YtiokdpnhaemciaaSealB
set_option linter.unusedVariables false
set_option linter.unusedSimpArgs false
namespace Go.Proofs.Ytiokdpnhaemciaa
open Go.RowKit Go.Proofs.YtiokdpnhaemciaaW.PrintWords Go.Proofs.YtiokdpnhaemciaaW.PrintLast Crc
abbrev U4l1 (l : List Value) : List Value := undef :: undef :: undef :: undef :: l
abbrev U8l1 (l : List Value) : List Value := U4l1 (U4l1 l)
abbrev U16l1 (l : List Value) : List Value := U8l1 (U8l1 l)
abbrev U32l1 (l : List Value) : List Value := U16l1 (U16l1 l)
abbrev U64l1 (l : List Value) : List Value := U32l1 (U32l1 l)
/-- An entry's cells. -/
def enP (x : Int × Int) (cs : List Value) : Prop := cs = [.int .i64 x.1, .int .i64 x.2]
def kEn : Kd (Int × Int) := flatK 2 enP (fun x cs h => by rw [h]; rfl) (fun x cs h u hu => by
  rw [h] at hu
  rcases List.mem_cons.1 hu with rfl | hu
  · rfl
  · rw [List.mem_singleton.1 hu]; rfl)
theorem en_get {w : World} {A : Option Addr} {n : Nat} {es : List (Int × Int)} (h : kEn.C w A n es) (j : Nat) (hj : j < es.length) : ∃ ad x, A = some ad ∧ es[j]? = some x ∧ ∀ i u, ([.int .i64 x.1, .int .i64 x.2] : List Value)[i]? = some u → w.cell? ((ad.add (j * 2)).add i) = some u := by
  obtain ⟨ad, e, hc⟩ := h.2.2 (by have := h.1; omega)
  obtain ⟨c, hs, hr, hcell⟩ := hc j _ (List.getElem?_eq_getElem hj)
  refine ⟨ad, es[j], e, List.getElem?_eq_getElem hj, fun i u hu => ?_⟩
  have hr' : c = _ := hr
  rw [add_add]
  exact hcell i u (by rw [hr']; exact hu)
/-- Is this entry as it should be? -/
def enB (es : List (Int × Int)) (i : Nat) : Bool := match es[i]? with
  | none => true
  | some x => decide (0 ≤ x.1) && decide (x.1 < 64) && decide (0 ≤ x.2) && decide (x.2 < 240) && (i == 0 || decide ((es.getD (i - 1) (0, 0)).1 < x.1))
def riseK (es : List (Int × Int)) (j : Nat) : Bool := (List.range j).all (enB es)
def riseB (es : List (Int × Int)) : Bool := riseK es es.length && (decide (1 ≤ es.length) && decide (es.length ≤ 6))
theorem riseK_snoc (es : List (Int × Int)) (j : Nat) : riseK es (j + 1) = (riseK es j && enB es j) := by unfold riseK; rw [List.range_succ, List.all_append]; simp
theorem rise_no {es : List (Int × Int)} {j : Nat} (hj : j < es.length) (h : enB es j = false) : riseB es = false := by
  have : riseK es es.length = false := by
    unfold riseK
    rw [List.all_eq_false]
    exact ⟨j, List.mem_range.2 hj, by simp [h]⟩
  unfold riseB
  rw [this]
  rfl
theorem en_cases {es : List (Int × Int)} {j : Nat} {x : Int × Int} (hx : es[j]? = some x) :
    (enB es j = false ∧ x.1 < 0) ∨ (enB es j = false ∧ ¬ x.1 < 0 ∧ 64 ≤ x.1) ∨ (enB es j = false ∧ ¬ x.1 < 0 ∧ ¬ 64 ≤ x.1 ∧ x.2 < 0) ∨ (enB es j = false ∧ ¬ x.1 < 0 ∧ ¬ 64 ≤ x.1 ∧ ¬ x.2 < 0 ∧ 240 ≤ x.2) ∨
      (enB es j = true ∧ ¬ x.1 < 0 ∧ ¬ 64 ≤ x.1 ∧ ¬ x.2 < 0 ∧ ¬ 240 ≤ x.2 ∧ j = 0) ∨
      (enB es j = true ∧ ¬ x.1 < 0 ∧ ¬ 64 ≤ x.1 ∧ ¬ x.2 < 0 ∧ ¬ 240 ≤ x.2 ∧ 0 < j ∧ ¬ x.1 ≤ (es.getD (j - 1) (0, 0)).1) ∨ (enB es j = false ∧ ¬ x.1 < 0 ∧ ¬ 64 ≤ x.1 ∧ ¬ x.2 < 0 ∧ ¬ 240 ≤ x.2 ∧ 0 < j ∧ x.1 ≤ (es.getD (j - 1) (0, 0)).1) := by
  have e : enB es j = (decide (0 ≤ x.1) && decide (x.1 < 64) && decide (0 ≤ x.2) && decide (x.2 < 240) && (j == 0 || decide ((es.getD (j - 1) (0, 0)).1 < x.1))) := by unfold enB; rw [hx]
  rw [e]
  generalize (es.getD (j - 1) (0, 0)).1 = y
  simp only [Bool.and_eq_true, Bool.and_eq_false_iff, Bool.or_eq_true, Bool.or_eq_false_iff, decide_eq_true_eq, decide_eq_false_iff_not, beq_iff_eq, beq_eq_false_iff_ne]
  omega

theorem en_prev {w : World} {ad : Addr} {n : Nat} {es : List (Int × Int)} (h : kEn.C w (some ad) n es) (j : Nat) (hj : j < es.length) (h0 : 0 < j) : w.cell? ((ad.add ((j - 1) * 2)).add 0) = some (.int .i64 (es.getD (j - 1) (0, 0)).1) := by
  obtain ⟨ad', x, e, hx, hc⟩ := en_get h (j - 1) (by omega)
  injection e with e
  subst e
  rw [List.getD_eq_getElem?_getD, hx]
  exact hc 0 _ rfl
theorem cmp_t {bo : BinOp} {a b : Int} {c : Bool} (h : cmpB bo a b = c) : cmpB bo a b = c := h
theorem wr64' {x : Int} (h : -9223372036854775808 ≤ x ∧ x < 9223372036854775808) : IntKind.i64.wrap x = x := by rw [IntKind.wrap_i64]; omega

set_option maxRecDepth 10000 in
set_option maxHeartbeats 2000000 in
theorem rises_any (w : World) (A : Option Addr) (c : Nat) (es : List (Int × Int)) (hr : kEn.C w A es.length es) (hl : es.length ≤ 1000000) : Calls Try.prog 41 #[.slice A es.length c] w fun e w' => e = .returned (.bool (riseB es)) ∧ Below w.heap.size w w' := by
  have HS := St.empty w
  · skip
    refine c_enter Try.func41 rfl 54 rfl (.slice A es.length c :: U32l1 (U16l1 (U4l1 (undef :: [])))) rfl ?_
    refine wp_seq_k (fun K1 hK2 => ?_)
    refine c_region (fun ops4 hops3 => ?_)
    clear hops3
    refine p_run (l' := _) _ (x_assign (.bool false) rfl rfl) rfl ?_
    refine wpList_nil ?_
    refine hK2 _ _ ?_
    refine wp_seq_k (fun K5 hK6 => ?_)
    refine wp_seq_k (fun K7 hK8 => ?_)
    refine c_region (fun ops10 hops9 => ?_)
    clear hops9
    refine p_run (l' := _) _ (x_move (.slice A es.length c) rfl rfl) rfl ?_
    refine p_run (l' := _) _ (x_len rfl rfl Try.underlying50) rfl ?_
    refine p_run (l' := _) _ (x_move (.int .i64 0) rfl rfl) rfl ?_
    refine wpList_nil ?_
    refine fr_at (l' := (.slice A es.length c :: undef :: .bool false :: undef :: undef :: .slice A es.length c :: .int .i64 (es.length : Int) :: .int .i64 0 :: U32l1 (U8l1 (U4l1 (undef :: undef :: []))))) rfl ?_
    refine hK8 _ _ ?_
    refine wp_block ?_
    refine c_loop (ι := Nat) (fun i_ a_ w_ => match i_ with | j => ∃ (uq11 : Value × Value × Value × Value × Value × Value) (uq12 : Value × Value × Value × Value × Value × Value) (uq13 : Value × Value × Value × Value × Value × Value) (uq14 : Value × Value × Value × Value × Value × Value) (uq15 : Value × Value × Value × Value × Value × Value) (uq16 : Value × Value × Value × Value × Value × Value) (uq17 : Value × Value × Value × Value × Value), a_ = fr (.slice A es.length c :: undef :: uq11.1 :: uq11.2.1 :: uq11.2.2.1 :: .slice A es.length c :: .int .i64 (es.length : Int) :: .int .i64 (j : Int) :: uq11.2.2.2.1 :: uq11.2.2.2.2.1 :: uq11.2.2.2.2.2 :: uq12.1 :: uq12.2.1 :: uq12.2.2.1 :: uq12.2.2.2.1 :: uq12.2.2.2.2.1 :: uq12.2.2.2.2.2 :: uq13.1 :: uq13.2.1 :: uq13.2.2.1 :: uq13.2.2.2.1 :: uq13.2.2.2.2.1 :: uq13.2.2.2.2.2 :: uq14.1 :: uq14.2.1 :: uq14.2.2.1 :: uq14.2.2.2.1 :: uq14.2.2.2.2.1 :: uq14.2.2.2.2.2 :: uq15.1 :: uq15.2.1 :: uq15.2.2.1 :: uq15.2.2.2.1 :: uq15.2.2.2.2.1 :: uq15.2.2.2.2.2 :: uq16.1 :: uq16.2.1 :: uq16.2.2.1 :: uq16.2.2.2.1 :: uq16.2.2.2.2.1 :: uq16.2.2.2.2.2 :: uq17.1 :: uq17.2.1 :: uq17.2.2.1 :: uq17.2.2.2.1 :: uq17.2.2.2.2 :: U8l1 ([])) ∧ St w (fun _ => False) w_ ([]) ∧ (j ≤ es.length ∧ riseK es j = true)) (fun i_ => match i_ with | j => es.length - j) 0 ?_ ?_
    · exact ⟨(.bool false, undef, undef, undef, undef, undef), (undef, undef, undef, undef, undef, undef), (undef, undef, undef, undef, undef, undef), (undef, undef, undef, undef, undef, undef), (undef, undef, undef, undef, undef, undef), (undef, undef, undef, undef, undef, undef), (undef, undef, undef, undef, undef), rfl, HS, ⟨by omega, rfl⟩⟩
    · clear HS
      rintro j a_ w20 ⟨uq11, uq12, uq13, uq14, uq15, uq16, uq17, rfl, HS, hI⟩ J18 hJ19
      have hjl := hI.1
      refine wp_seq_k (fun K21 hK22 => ?_)
      refine c_region (fun ops24 hops23 => ?_)
      clear hops23
      refine p_run (l' := _) _ (x_cmp (k := .i64) (m := (j : Int)) (n := (es.length : Int)) .lss (decide ((j : Int) < (es.length : Int))) rfl rfl rfl rfl rfl) rfl ?_
      refine wpList_nil ?_
      refine hK22 _ _ ?_
      refine wp_seq_k (fun K25 hK26 => ?_)
      refine c_cond (t := decide ((j : Int) < (es.length : Int))) rfl (fun hc27 => ?_) (fun hc27 => ?_)
      · have hlt : j < es.length := by have := of_decide_eq_true hc27; omega
        obtain ⟨ad, x, rfl, hx, hcell⟩ := en_get (Kd.C_below hr HS.belowOf) j hlt
        refine wp_skip ?_
        refine hK26 _ _ ?_
        refine wp_seq_k (fun K28 hK29 => ?_)
        refine wp_block ?_
        refine wp_seq_k (fun K30 hK31 => ?_)
        refine c_region (fun ops33 hops32 => ?_)
        clear hops32
        refine p_run (l' := _) _ (x_move (.int .i64 (j : Int)) rfl rfl) rfl ?_
        refine p_run (l' := _) _ (x_index (A := ad) (j := j * 2) (sz := 2) rfl rfl rfl Try.underlying50 (by kernel_rfl) (by omega) rfl) rfl ?_
        refine p_run (l' := _) _ (x_loads [.int .i64 x.1, .int .i64 x.2] 2 rfl rfl hcell (by rfl) (by kernel_rfl) rfl) rfl ?_
        refine St.wAlloc HS (cs := [.int .i64 0, .int .i64 0]) (.agg [.int .i64 0, .int .i64 0].toArray) (by kernel_rfl) rfl ?_
        clear HS
        intro g34 w35 hg36 HS
        refine p_run (l' := _) _ (x_assign (.int .i64 (j : Int)) rfl rfl) rfl ?_
        refine St.stores (cs' := [.int .i64 x.1, .int .i64 x.2]) HS [.int .i64 x.1, .int .i64 x.2] 2 rfl rfl (by rfl) (by kernel_rfl) rfl (by simp) rfl ?_
        clear HS
        intro w37 HS
        refine wpList_nil ?_
        refine hK31 _ _ ?_
        refine wp_seq_k (fun K38 hK39 => ?_)
        rcases en_cases hx with ⟨he, h1⟩ | ⟨he, h1, h2⟩ | ⟨he, h1, h2, h3⟩ | ⟨he, h1, h2, h3, h4⟩ | ⟨he, h1, h2, h3, h4, h5⟩ | ⟨he, h1, h2, h3, h4, h5, h6⟩ | ⟨he, h1, h2, h3, h4, h5, h6⟩
        · skip
          refine free_frame (n := 33) (T := _) [0, 1, 3, 7, 15, 31, 63, 127, 255, 511, 1023, 2047, 4095, 8191, 16383, 32767, 65535, 131071, 262143, 524287, 1048575, 2097151, 4194303, 8388607, 4194303, 4194303, 37748735, 121634815, 255852543, 524287999, 1073741823, 2147483647, 4294967295] [(0, 12), (1, 13), (2, 14), (3, 15), (4, 16), (5, 17), (6, 18), (7, 19), (8, 20), (9, 21), (10, 22), (11, 23), (12, 24), (13, 25), (14, 26), (15, 27), (16, 28), (17, 29), (18, 30), (19, 31), (20, 32), (21, 33), (22, 34), (23, 35), (24, 36), (25, 37), (26, 38), (27, 39), (28, 40), (29, 41), (30, 42), (31, 43), (32, 44)] (fun bq_ vq_ w_ => qv ((fun i_ => match i_ with | 0 => some (.pointer (some ⟨g34, 0, none⟩)) | 1 => some (.int .i64 x.1) | 2 => some (.bool true) | 3 => some (.bool true) | 4 => some (undef) | 5 => some (undef) | 6 => some (undef) | 7 => some (.bool true) | 8 => some (.bool true) | 9 => some (undef) | 10 => some (undef) | 11 => some (undef) | 12 => some (.bool true) | 13 => some (.bool true) | 14 => some (undef) | 15 => some (undef) | 16 => some (undef) | 17 => some (.bool true) | 18 => some (.bool true) | 19 => some (undef) | 20 => some (undef) | 21 => some (undef) | 22 => some (undef) | 23 => some (undef) | 24 => some (undef) | 25 => some (undef) | 26 => some (undef) | 27 => some (undef) | 28 => some (undef) | 29 => some (undef) | 30 => some (undef) | 31 => some (undef) | 32 => some (.bool true) | _ => none) : Nat → Option Value) bq_ vq_ ∧ (St w (fun _ => False) w_ ([blk g34 [.int .i64 x.1, .int .i64 x.2] 62]))) (by kernel_rfl) rfl rfl (by kernel_rfl) (by kernel_rfl) rfl (by kernel_rfl) (by kernel_rfl) ⟨qv_none, HS.draw⟩ ?_ ?_
          · clear HS
            intro i_ hi_ bq_ vq_ a_ w_ hG hb_ hon hoff hfr hel hval
            obtain ⟨hV, hE⟩ := hG
            have hi_ := List.mem_range.1 hi_
            obtain ⟨l_, rfl⟩ := hfr
            have hv_ := fun (j t : Nat) (v : Value) (h1 : (j, t) ∈ [(0, 12), (1, 13), (2, 14), (3, 15), (4, 16), (5, 17), (6, 18), (7, 19), (8, 20), (9, 21), (10, 22), (11, 23), (12, 24), (13, 25), (14, 26), (15, 27), (16, 28), (17, 29), (18, 30), (19, 31), (20, 32), (21, 33), (22, 34), (23, 35), (24, 36), (25, 37), (26, 38), (27, 39), (28, 40), (29, 41), (30, 42), (31, 43), (32, 44)]) h2 h3 => (hval (j, t) h1 h3).trans (congrArg some (hV j v h2 h3))
            have hcs : i_ = 0 ∨ i_ = 1 ∨ i_ = 2 ∨ i_ = 3 ∨ i_ = 4 ∨ i_ = 5 ∨ i_ = 6 ∨ i_ = 7 ∨ i_ = 8 ∨ i_ = 9 ∨ i_ = 10 ∨ i_ = 11 ∨ i_ = 12 ∨ i_ = 13 ∨ i_ = 14 ∨ i_ = 15 ∨ i_ = 16 ∨ i_ = 17 ∨ i_ = 18 ∨ i_ = 19 ∨ i_ = 20 ∨ i_ = 21 ∨ i_ = 22 ∨ i_ = 23 ∨ i_ = 24 ∨ i_ = 25 ∨ i_ = 26 ∨ i_ = 27 ∨ i_ = 28 ∨ i_ = 29 ∨ i_ = 30 ∨ i_ = 31 ∨ i_ = 32 := by omega
            rcases hcs with rfl | rfl | rfl | rfl | rfl | rfl | rfl | rfl | rfl | rfl | rfl | rfl | rfl | rfl | rfl | rfl | rfl | rfl | rfl | rfl | rfl | rfl | rfl | rfl | rfl | rfl | rfl | rfl | rfl | rfl | rfl | rfl | rfl
            · have e4 : evl l_ (.tmp 4) = .pointer (some ⟨g34, 0, none⟩) := evl_of ((hel 4 (by decide)).trans rfl)
              exact ⟨_, rfl, fun K_ hK_ => q_op _ (x_field (j := 0) _ _ rfl e4 Try.underlying62 rfl (by rfl) rfl) (hK_ _ _ ⟨qv_up hV (fun _ h => Option.some.inj h), hE⟩)⟩
            · have hE0 := hE
              have HS := hE0
              have e12 : evl l_ (.tmp 12) = .pointer (some ⟨g34, 0, none⟩) := evl_of (hv_ 0 12 _ (by decide) rfl (hon 0 (by decide)))
              exact ⟨_, rfl, fun K_ hK_ => q_op _ (x_load (.int .i64 x.1) rfl e12 (bkCell (HS.get (.head _)) 0 _ rfl) (by rfl)) (hK_ _ _ ⟨qv_up hV (fun _ h => Option.some.inj h), hE⟩)⟩
            · have e13 : evl l_ (.tmp 13) = .int .i64 x.1 := evl_of (hv_ 1 13 _ (by decide) rfl (hon 1 (by decide)))
              exact ⟨_, rfl, fun K_ hK_ => q_op _ (x_cmp (k := .i64) (m := x.1) (n := 0) .lss true rfl e13 rfl (decide_eq_true h1) rfl) (hK_ _ _ ⟨qv_up hV (fun _ h => Option.some.inj h), hE⟩)⟩
            · have e14 : evl l_ (.tmp 14) = .bool true := evl_of (hv_ 2 14 _ (by decide) rfl (hon 2 (by decide)))
              exact ⟨_, rfl, fun K_ hK_ => q_op _ (x_move (.bool true) rfl e14) (hK_ _ _ ⟨qv_up hV (fun _ h => Option.some.inj h), hE⟩)⟩
            · have h15 : (fr l_).tmps[15]? = some (.bool true) := hv_ 3 15 _ (by decide) rfl (hon 3 (by decide))
              exact ⟨_, rfl, fun K_ hK_ => wp_offG (wanted_off (t := 15) rfl rfl rfl h15) (hK_ undef _ ⟨qv_up hV (fun _ h => Option.some.inj h), hE⟩)⟩
            · have h15 : (fr l_).tmps[15]? = some (.bool true) := hv_ 3 15 _ (by decide) rfl (hon 3 (by decide))
              exact ⟨_, rfl, fun K_ hK_ => wp_offG (wanted_off (t := 15) rfl rfl rfl h15) (hK_ undef _ ⟨qv_up hV (fun _ h => Option.some.inj h), hE⟩)⟩
            · have h15 : (fr l_).tmps[15]? = some (.bool true) := hv_ 3 15 _ (by decide) rfl (hon 3 (by decide))
              exact ⟨_, rfl, fun K_ hK_ => wp_offG (wanted_off (t := 15) rfl rfl rfl h15) (hK_ undef _ ⟨qv_up hV (fun _ h => Option.some.inj h), hE⟩)⟩
            · have e15 : evl l_ (.tmp 15) = .bool true := evl_of (hv_ 3 15 _ (by decide) rfl (hon 3 (by decide)))
              have e18 : evl l_ (.tmp 18) = undef := evl_of (hv_ 6 18 _ (by decide) rfl (hon 6 (by decide)))
              exact ⟨_, rfl, fun K_ hK_ => q_op _ (x_pick true (.bool true) (undef) (.bool true) rfl e15 rfl e18 rfl) (hK_ _ _ ⟨qv_up hV (fun _ h => Option.some.inj h), hE⟩)⟩
            · have e19 : evl l_ (.tmp 19) = .bool true := evl_of (hv_ 7 19 _ (by decide) rfl (hon 7 (by decide)))
              exact ⟨_, rfl, fun K_ hK_ => q_op _ (x_move (.bool true) rfl e19) (hK_ _ _ ⟨qv_up hV (fun _ h => Option.some.inj h), hE⟩)⟩
            · have h20 : (fr l_).tmps[20]? = some (.bool true) := hv_ 8 20 _ (by decide) rfl (hon 8 (by decide))
              exact ⟨_, rfl, fun K_ hK_ => wp_offG (wanted_off (t := 20) rfl rfl rfl h20) (hK_ undef _ ⟨qv_up hV (fun _ h => Option.some.inj h), hE⟩)⟩
            · have h20 : (fr l_).tmps[20]? = some (.bool true) := hv_ 8 20 _ (by decide) rfl (hon 8 (by decide))
              exact ⟨_, rfl, fun K_ hK_ => wp_offG (wanted_off (t := 20) rfl rfl rfl h20) (hK_ undef _ ⟨qv_up hV (fun _ h => Option.some.inj h), hE⟩)⟩
            · have h20 : (fr l_).tmps[20]? = some (.bool true) := hv_ 8 20 _ (by decide) rfl (hon 8 (by decide))
              exact ⟨_, rfl, fun K_ hK_ => wp_offG (wanted_off (t := 20) rfl rfl rfl h20) (hK_ undef _ ⟨qv_up hV (fun _ h => Option.some.inj h), hE⟩)⟩
            · have e20 : evl l_ (.tmp 20) = .bool true := evl_of (hv_ 8 20 _ (by decide) rfl (hon 8 (by decide)))
              have e23 : evl l_ (.tmp 23) = undef := evl_of (hv_ 11 23 _ (by decide) rfl (hon 11 (by decide)))
              exact ⟨_, rfl, fun K_ hK_ => q_op _ (x_pick true (.bool true) (undef) (.bool true) rfl e20 rfl e23 rfl) (hK_ _ _ ⟨qv_up hV (fun _ h => Option.some.inj h), hE⟩)⟩
            · have e24 : evl l_ (.tmp 24) = .bool true := evl_of (hv_ 12 24 _ (by decide) rfl (hon 12 (by decide)))
              exact ⟨_, rfl, fun K_ hK_ => q_op _ (x_move (.bool true) rfl e24) (hK_ _ _ ⟨qv_up hV (fun _ h => Option.some.inj h), hE⟩)⟩
            · have h25 : (fr l_).tmps[25]? = some (.bool true) := hv_ 13 25 _ (by decide) rfl (hon 13 (by decide))
              exact ⟨_, rfl, fun K_ hK_ => wp_offG (wanted_off (t := 25) rfl rfl rfl h25) (hK_ undef _ ⟨qv_up hV (fun _ h => Option.some.inj h), hE⟩)⟩
            · have h25 : (fr l_).tmps[25]? = some (.bool true) := hv_ 13 25 _ (by decide) rfl (hon 13 (by decide))
              exact ⟨_, rfl, fun K_ hK_ => wp_offG (wanted_off (t := 25) rfl rfl rfl h25) (hK_ undef _ ⟨qv_up hV (fun _ h => Option.some.inj h), hE⟩)⟩
            · have h25 : (fr l_).tmps[25]? = some (.bool true) := hv_ 13 25 _ (by decide) rfl (hon 13 (by decide))
              exact ⟨_, rfl, fun K_ hK_ => wp_offG (wanted_off (t := 25) rfl rfl rfl h25) (hK_ undef _ ⟨qv_up hV (fun _ h => Option.some.inj h), hE⟩)⟩
            · have e25 : evl l_ (.tmp 25) = .bool true := evl_of (hv_ 13 25 _ (by decide) rfl (hon 13 (by decide)))
              have e28 : evl l_ (.tmp 28) = undef := evl_of (hv_ 16 28 _ (by decide) rfl (hon 16 (by decide)))
              exact ⟨_, rfl, fun K_ hK_ => q_op _ (x_pick true (.bool true) (undef) (.bool true) rfl e25 rfl e28 rfl) (hK_ _ _ ⟨qv_up hV (fun _ h => Option.some.inj h), hE⟩)⟩
            · have e29 : evl l_ (.tmp 29) = .bool true := evl_of (hv_ 17 29 _ (by decide) rfl (hon 17 (by decide)))
              exact ⟨_, rfl, fun K_ hK_ => q_op _ (x_move (.bool true) rfl e29) (hK_ _ _ ⟨qv_up hV (fun _ h => Option.some.inj h), hE⟩)⟩
            · have h30 : (fr l_).tmps[30]? = some (.bool true) := hv_ 18 30 _ (by decide) rfl (hon 18 (by decide))
              exact ⟨_, rfl, fun K_ hK_ => wp_offG (wanted_off (t := 30) rfl rfl rfl h30) (hK_ undef _ ⟨qv_up hV (fun _ h => Option.some.inj h), hE⟩)⟩
            · have h30 : (fr l_).tmps[30]? = some (.bool true) := hv_ 18 30 _ (by decide) rfl (hon 18 (by decide))
              exact ⟨_, rfl, fun K_ hK_ => wp_offG (wanted_off (t := 30) rfl rfl rfl h30) (hK_ undef _ ⟨qv_up hV (fun _ h => Option.some.inj h), hE⟩)⟩
            · have h30 : (fr l_).tmps[30]? = some (.bool true) := hv_ 18 30 _ (by decide) rfl (hon 18 (by decide))
              exact ⟨_, rfl, fun K_ hK_ => wp_offG (wanted_off (t := 30) rfl rfl rfl h30) (hK_ undef _ ⟨qv_up hV (fun _ h => Option.some.inj h), hE⟩)⟩
            · have h33 : (fr l_).tmps[33]? = some (undef) := hv_ 21 33 _ (by decide) rfl (hon 21 (by decide))
              exact ⟨_, rfl, fun K_ hK_ => wp_offG (wanted_undef (t := 33) rfl rfl rfl h33) (hK_ undef _ ⟨qv_up hV (fun _ h => Option.some.inj h), hE⟩)⟩
            · have h33 : (fr l_).tmps[33]? = some (undef) := hv_ 21 33 _ (by decide) rfl (hon 21 (by decide))
              exact ⟨_, rfl, fun K_ hK_ => wp_offG (wanted_undef (t := 33) rfl rfl rfl h33) (hK_ undef _ ⟨qv_up hV (fun _ h => Option.some.inj h), hE⟩)⟩
            · have h33 : (fr l_).tmps[33]? = some (undef) := hv_ 21 33 _ (by decide) rfl (hon 21 (by decide))
              exact ⟨_, rfl, fun K_ hK_ => wp_offG (wanted_undef (t := 33) rfl rfl rfl h33) (hK_ undef _ ⟨qv_up hV (fun _ h => Option.some.inj h), hE⟩)⟩
            · have h33 : (fr l_).tmps[33]? = some (undef) := hv_ 21 33 _ (by decide) rfl (hon 21 (by decide))
              exact ⟨_, rfl, fun K_ hK_ => wp_offG (wanted_undef (t := 33) rfl rfl rfl h33) (hK_ undef _ ⟨qv_up hV (fun _ h => Option.some.inj h), hE⟩)⟩
            · have h33 : (fr l_).tmps[33]? = some (undef) := hv_ 21 33 _ (by decide) rfl (hon 21 (by decide))
              exact ⟨_, rfl, fun K_ hK_ => wp_offG (wanted_undef (t := 33) rfl rfl rfl h33) (hK_ undef _ ⟨qv_up hV (fun _ h => Option.some.inj h), hE⟩)⟩
            · have h33 : (fr l_).tmps[33]? = some (undef) := hv_ 21 33 _ (by decide) rfl (hon 21 (by decide))
              exact ⟨_, rfl, fun K_ hK_ => wp_offG (wanted_undef (t := 33) rfl rfl rfl h33) (hK_ undef _ ⟨qv_up hV (fun _ h => Option.some.inj h), hE⟩)⟩
            · have h33 : (fr l_).tmps[33]? = some (undef) := hv_ 21 33 _ (by decide) rfl (hon 21 (by decide))
              exact ⟨_, rfl, fun K_ hK_ => wp_offG (wanted_undef (t := 33) rfl rfl rfl h33) (hK_ undef _ ⟨qv_up hV (fun _ h => Option.some.inj h), hE⟩)⟩
            · have h33 : (fr l_).tmps[33]? = some (undef) := hv_ 21 33 _ (by decide) rfl (hon 21 (by decide))
              exact ⟨_, rfl, fun K_ hK_ => wp_offG (wanted_undef (t := 33) rfl rfl rfl h33) (hK_ undef _ ⟨qv_up hV (fun _ h => Option.some.inj h), hE⟩)⟩
            · have h33 : (fr l_).tmps[33]? = some (undef) := hv_ 21 33 _ (by decide) rfl (hon 21 (by decide))
              exact ⟨_, rfl, fun K_ hK_ => wp_offG (wanted_undef (t := 33) rfl rfl rfl h33) (hK_ undef _ ⟨qv_up hV (fun _ h => Option.some.inj h), hE⟩)⟩
            · have h30 : (fr l_).tmps[30]? = some (.bool true) := hv_ 18 30 _ (by decide) rfl (hon 18 (by decide))
              exact ⟨_, rfl, fun K_ hK_ => wp_offG (wanted_off (t := 30) rfl rfl rfl h30) (hK_ undef _ ⟨qv_up hV (fun _ h => Option.some.inj h), hE⟩)⟩
            · have e30 : evl l_ (.tmp 30) = .bool true := evl_of (hv_ 18 30 _ (by decide) rfl (hon 18 (by decide)))
              have e43 : evl l_ (.tmp 43) = undef := evl_of (hv_ 31 43 _ (by decide) rfl (hon 31 (by decide)))
              exact ⟨_, rfl, fun K_ hK_ => q_op _ (x_pick true (.bool true) (undef) (.bool true) rfl e30 rfl e43 rfl) (hK_ _ _ ⟨qv_up hV (fun _ h => Option.some.inj h), hE⟩)⟩
          intro bq_ vq_ w_ hall hG
          obtain ⟨hV, hE⟩ := hG
          clear HS
          have HS := hE
          have hv0 := hV 0 _ rfl (hall 0 (by decide))
          have hv1 := hV 1 _ rfl (hall 1 (by decide))
          have hv2 := hV 2 _ rfl (hall 2 (by decide))
          have hv3 := hV 3 _ rfl (hall 3 (by decide))
          have hv4 := hV 4 _ rfl (hall 4 (by decide))
          have hv5 := hV 5 _ rfl (hall 5 (by decide))
          have hv6 := hV 6 _ rfl (hall 6 (by decide))
          have hv7 := hV 7 _ rfl (hall 7 (by decide))
          have hv8 := hV 8 _ rfl (hall 8 (by decide))
          have hv9 := hV 9 _ rfl (hall 9 (by decide))
          have hv10 := hV 10 _ rfl (hall 10 (by decide))
          have hv11 := hV 11 _ rfl (hall 11 (by decide))
          have hv12 := hV 12 _ rfl (hall 12 (by decide))
          have hv13 := hV 13 _ rfl (hall 13 (by decide))
          have hv14 := hV 14 _ rfl (hall 14 (by decide))
          have hv15 := hV 15 _ rfl (hall 15 (by decide))
          have hv16 := hV 16 _ rfl (hall 16 (by decide))
          have hv17 := hV 17 _ rfl (hall 17 (by decide))
          have hv18 := hV 18 _ rfl (hall 18 (by decide))
          have hv19 := hV 19 _ rfl (hall 19 (by decide))
          have hv20 := hV 20 _ rfl (hall 20 (by decide))
          have hv21 := hV 21 _ rfl (hall 21 (by decide))
          have hv22 := hV 22 _ rfl (hall 22 (by decide))
          have hv23 := hV 23 _ rfl (hall 23 (by decide))
          have hv24 := hV 24 _ rfl (hall 24 (by decide))
          have hv25 := hV 25 _ rfl (hall 25 (by decide))
          have hv26 := hV 26 _ rfl (hall 26 (by decide))
          have hv27 := hV 27 _ rfl (hall 27 (by decide))
          have hv28 := hV 28 _ rfl (hall 28 (by decide))
          have hv29 := hV 29 _ rfl (hall 29 (by decide))
          have hv30 := hV 30 _ rfl (hall 30 (by decide))
          have hv31 := hV 31 _ rfl (hall 31 (by decide))
          have hv32 := hV 32 _ rfl (hall 32 (by decide))
          clear hV hall
          rw [putSel_fr]
          simp only [tells, List.map_cons, List.map_nil, setAll, List.set_cons_succ, List.set_cons_zero, hv0, hv1, hv2, hv3, hv4, hv5, hv6, hv7, hv8, hv9, hv10, hv11, hv12, hv13, hv14, hv15, hv16, hv17, hv18, hv19, hv20, hv21, hv22, hv23, hv24, hv25, hv26, hv27, hv28, hv29, hv30, hv31, hv32]
          clear hv0 hv1 hv2 hv3 hv4 hv5 hv6 hv7 hv8 hv9 hv10 hv11 hv12 hv13 hv14 hv15 hv16 hv17 hv18 hv19 hv20 hv21 hv22 hv23 hv24 hv25 hv26 hv27 hv28 hv29 hv30 hv31 hv32
          generalize w_ = w900101 at HS ⊢
          refine fr_at (l' := (.slice (some ad) es.length c :: undef :: uq11.1 :: .int .i64 (j : Int) :: .pointer (some ⟨g34, 0, none⟩) :: .slice (some ad) es.length c :: .int .i64 (es.length : Int) :: .int .i64 (j : Int) :: .bool (decide ((j : Int) < (es.length : Int))) :: .int .i64 (j : Int) :: .pointer (some ((ad).add (j * 2))) :: .agg ([.int .i64 x.1, .int .i64 x.2] : List Value).toArray :: .pointer (some ⟨g34, 0, none⟩) :: .int .i64 x.1 :: .bool true :: .bool true :: undef :: undef :: undef :: .bool true :: .bool true :: undef :: undef :: undef :: .bool true :: .bool true :: undef :: undef :: undef :: .bool true :: .bool true :: U8l1 (U4l1 (undef :: .bool true :: uq17.2.2.2.2 :: U8l1 ([]))))) rfl ?_
          refine hK39 _ _ ?_
          refine c_true rfl ?_
          refine wp_seq_k (fun K900102 hK900103 => ?_)
          refine c_region (fun ops900105 hops900104 => ?_)
          clear hops900104
          refine p_run (l' := _) _ (x_assign (.bool false) rfl rfl) rfl ?_
          refine wpList_nil ?_
          refine hK900103 _ _ ?_
          refine wp_ret ?_
          try simp only [Exit.inBlock, Exit.then]
          refine c_ret (.bool false) (r_tmp rfl rfl) ?_
          rw [rise_no hlt he]
          exact ⟨rfl, HS.belowOf⟩
        · skip
          refine free_frame (n := 33) (T := _) [0, 1, 3, 7, 15, 31, 63, 127, 255, 511, 1023, 2047, 4095, 8191, 16383, 32767, 65535, 131071, 262143, 524287, 1048575, 2097151, 4194303, 8388607, 4194303, 4194303, 37748735, 121634815, 255852543, 524287999, 1073741823, 2147483647, 4294967295] [(0, 12), (1, 13), (2, 14), (3, 15), (4, 16), (5, 17), (6, 18), (7, 19), (8, 20), (9, 21), (10, 22), (11, 23), (12, 24), (13, 25), (14, 26), (15, 27), (16, 28), (17, 29), (18, 30), (19, 31), (20, 32), (21, 33), (22, 34), (23, 35), (24, 36), (25, 37), (26, 38), (27, 39), (28, 40), (29, 41), (30, 42), (31, 43), (32, 44)] (fun bq_ vq_ w_ => qv ((fun i_ => match i_ with | 0 => some (.pointer (some ⟨g34, 0, none⟩)) | 1 => some (.int .i64 x.1) | 2 => some (.bool false) | 3 => some (.bool false) | 4 => some (.pointer (some ⟨g34, 0, none⟩)) | 5 => some (.int .i64 x.1) | 6 => some (.bool true) | 7 => some (.bool true) | 8 => some (.bool true) | 9 => some (undef) | 10 => some (undef) | 11 => some (undef) | 12 => some (.bool true) | 13 => some (.bool true) | 14 => some (undef) | 15 => some (undef) | 16 => some (undef) | 17 => some (.bool true) | 18 => some (.bool true) | 19 => some (undef) | 20 => some (undef) | 21 => some (undef) | 22 => some (undef) | 23 => some (undef) | 24 => some (undef) | 25 => some (undef) | 26 => some (undef) | 27 => some (undef) | 28 => some (undef) | 29 => some (undef) | 30 => some (undef) | 31 => some (undef) | 32 => some (.bool true) | _ => none) : Nat → Option Value) bq_ vq_ ∧ (St w (fun _ => False) w_ ([blk g34 [.int .i64 x.1, .int .i64 x.2] 62]))) (by kernel_rfl) rfl rfl (by kernel_rfl) (by kernel_rfl) rfl (by kernel_rfl) (by kernel_rfl) ⟨qv_none, HS.draw⟩ ?_ ?_
          · clear HS
            intro i_ hi_ bq_ vq_ a_ w_ hG hb_ hon hoff hfr hel hval
            obtain ⟨hV, hE⟩ := hG
            have hi_ := List.mem_range.1 hi_
            obtain ⟨l_, rfl⟩ := hfr
            have hv_ := fun (j t : Nat) (v : Value) (h1 : (j, t) ∈ [(0, 12), (1, 13), (2, 14), (3, 15), (4, 16), (5, 17), (6, 18), (7, 19), (8, 20), (9, 21), (10, 22), (11, 23), (12, 24), (13, 25), (14, 26), (15, 27), (16, 28), (17, 29), (18, 30), (19, 31), (20, 32), (21, 33), (22, 34), (23, 35), (24, 36), (25, 37), (26, 38), (27, 39), (28, 40), (29, 41), (30, 42), (31, 43), (32, 44)]) h2 h3 => (hval (j, t) h1 h3).trans (congrArg some (hV j v h2 h3))
            have hcs : i_ = 0 ∨ i_ = 1 ∨ i_ = 2 ∨ i_ = 3 ∨ i_ = 4 ∨ i_ = 5 ∨ i_ = 6 ∨ i_ = 7 ∨ i_ = 8 ∨ i_ = 9 ∨ i_ = 10 ∨ i_ = 11 ∨ i_ = 12 ∨ i_ = 13 ∨ i_ = 14 ∨ i_ = 15 ∨ i_ = 16 ∨ i_ = 17 ∨ i_ = 18 ∨ i_ = 19 ∨ i_ = 20 ∨ i_ = 21 ∨ i_ = 22 ∨ i_ = 23 ∨ i_ = 24 ∨ i_ = 25 ∨ i_ = 26 ∨ i_ = 27 ∨ i_ = 28 ∨ i_ = 29 ∨ i_ = 30 ∨ i_ = 31 ∨ i_ = 32 := by omega
            rcases hcs with rfl | rfl | rfl | rfl | rfl | rfl | rfl | rfl | rfl | rfl | rfl | rfl | rfl | rfl | rfl | rfl | rfl | rfl | rfl | rfl | rfl | rfl | rfl | rfl | rfl | rfl | rfl | rfl | rfl | rfl | rfl | rfl | rfl
            · have e4 : evl l_ (.tmp 4) = .pointer (some ⟨g34, 0, none⟩) := evl_of ((hel 4 (by decide)).trans rfl)
              exact ⟨_, rfl, fun K_ hK_ => q_op _ (x_field (j := 0) _ _ rfl e4 Try.underlying62 rfl (by rfl) rfl) (hK_ _ _ ⟨qv_up hV (fun _ h => Option.some.inj h), hE⟩)⟩
            · have hE0 := hE
              have HS := hE0
              have e12 : evl l_ (.tmp 12) = .pointer (some ⟨g34, 0, none⟩) := evl_of (hv_ 0 12 _ (by decide) rfl (hon 0 (by decide)))
              exact ⟨_, rfl, fun K_ hK_ => q_op _ (x_load (.int .i64 x.1) rfl e12 (bkCell (HS.get (.head _)) 0 _ rfl) (by rfl)) (hK_ _ _ ⟨qv_up hV (fun _ h => Option.some.inj h), hE⟩)⟩
            · have e13 : evl l_ (.tmp 13) = .int .i64 x.1 := evl_of (hv_ 1 13 _ (by decide) rfl (hon 1 (by decide)))
              exact ⟨_, rfl, fun K_ hK_ => q_op _ (x_cmp (k := .i64) (m := x.1) (n := 0) .lss false rfl e13 rfl (decide_eq_false h1) rfl) (hK_ _ _ ⟨qv_up hV (fun _ h => Option.some.inj h), hE⟩)⟩
            · have e14 : evl l_ (.tmp 14) = .bool false := evl_of (hv_ 2 14 _ (by decide) rfl (hon 2 (by decide)))
              exact ⟨_, rfl, fun K_ hK_ => q_op _ (x_move (.bool false) rfl e14) (hK_ _ _ ⟨qv_up hV (fun _ h => Option.some.inj h), hE⟩)⟩
            · have h15 : (fr l_).tmps[15]? = some (.bool false) := hv_ 3 15 _ (by decide) rfl (hon 3 (by decide))
              have e4 : evl l_ (.tmp 4) = .pointer (some ⟨g34, 0, none⟩) := evl_of ((hel 4 (by decide)).trans rfl)
              have e15 : evl l_ (.tmp 15) = .bool false := evl_of h15
              exact ⟨_, rfl, fun K_ hK_ => q_opG (wanted_on (t := 15) rfl rfl rfl h15) _ (x_field (j := 0) _ _ rfl e4 Try.underlying62 rfl (by rfl) rfl) (hK_ _ _ ⟨qv_up hV (fun _ h => Option.some.inj h), hE⟩)⟩
            · have h15 : (fr l_).tmps[15]? = some (.bool false) := hv_ 3 15 _ (by decide) rfl (hon 3 (by decide))
              have hE0 := hE
              have HS := hE0
              have e15 : evl l_ (.tmp 15) = .bool false := evl_of h15
              have e16 : evl l_ (.tmp 16) = .pointer (some ⟨g34, 0, none⟩) := evl_of (hv_ 4 16 _ (by decide) rfl (hon 4 (by decide)))
              exact ⟨_, rfl, fun K_ hK_ => q_opG (wanted_on (t := 15) rfl rfl rfl h15) _ (x_load (.int .i64 x.1) rfl e16 (bkCell (HS.get (.head _)) 0 _ rfl) (by rfl)) (hK_ _ _ ⟨qv_up hV (fun _ h => Option.some.inj h), hE⟩)⟩
            · have h15 : (fr l_).tmps[15]? = some (.bool false) := hv_ 3 15 _ (by decide) rfl (hon 3 (by decide))
              have e15 : evl l_ (.tmp 15) = .bool false := evl_of h15
              have e17 : evl l_ (.tmp 17) = .int .i64 x.1 := evl_of (hv_ 5 17 _ (by decide) rfl (hon 5 (by decide)))
              exact ⟨_, rfl, fun K_ hK_ => q_opG (wanted_on (t := 15) rfl rfl rfl h15) _ (x_cmp (k := .i64) (m := x.1) (n := 64) .geq true rfl e17 rfl (decide_eq_true h2) rfl) (hK_ _ _ ⟨qv_up hV (fun _ h => Option.some.inj h), hE⟩)⟩
            · have e15 : evl l_ (.tmp 15) = .bool false := evl_of (hv_ 3 15 _ (by decide) rfl (hon 3 (by decide)))
              have e18 : evl l_ (.tmp 18) = .bool true := evl_of (hv_ 6 18 _ (by decide) rfl (hon 6 (by decide)))
              exact ⟨_, rfl, fun K_ hK_ => q_op _ (x_pick false (.bool true) (.bool true) (.bool true) rfl e15 rfl e18 rfl) (hK_ _ _ ⟨qv_up hV (fun _ h => Option.some.inj h), hE⟩)⟩
            · have e19 : evl l_ (.tmp 19) = .bool true := evl_of (hv_ 7 19 _ (by decide) rfl (hon 7 (by decide)))
              exact ⟨_, rfl, fun K_ hK_ => q_op _ (x_move (.bool true) rfl e19) (hK_ _ _ ⟨qv_up hV (fun _ h => Option.some.inj h), hE⟩)⟩
            · have h20 : (fr l_).tmps[20]? = some (.bool true) := hv_ 8 20 _ (by decide) rfl (hon 8 (by decide))
              exact ⟨_, rfl, fun K_ hK_ => wp_offG (wanted_off (t := 20) rfl rfl rfl h20) (hK_ undef _ ⟨qv_up hV (fun _ h => Option.some.inj h), hE⟩)⟩
            · have h20 : (fr l_).tmps[20]? = some (.bool true) := hv_ 8 20 _ (by decide) rfl (hon 8 (by decide))
              exact ⟨_, rfl, fun K_ hK_ => wp_offG (wanted_off (t := 20) rfl rfl rfl h20) (hK_ undef _ ⟨qv_up hV (fun _ h => Option.some.inj h), hE⟩)⟩
            · have h20 : (fr l_).tmps[20]? = some (.bool true) := hv_ 8 20 _ (by decide) rfl (hon 8 (by decide))
              exact ⟨_, rfl, fun K_ hK_ => wp_offG (wanted_off (t := 20) rfl rfl rfl h20) (hK_ undef _ ⟨qv_up hV (fun _ h => Option.some.inj h), hE⟩)⟩
            · have e20 : evl l_ (.tmp 20) = .bool true := evl_of (hv_ 8 20 _ (by decide) rfl (hon 8 (by decide)))
              have e23 : evl l_ (.tmp 23) = undef := evl_of (hv_ 11 23 _ (by decide) rfl (hon 11 (by decide)))
              exact ⟨_, rfl, fun K_ hK_ => q_op _ (x_pick true (.bool true) (undef) (.bool true) rfl e20 rfl e23 rfl) (hK_ _ _ ⟨qv_up hV (fun _ h => Option.some.inj h), hE⟩)⟩
            · have e24 : evl l_ (.tmp 24) = .bool true := evl_of (hv_ 12 24 _ (by decide) rfl (hon 12 (by decide)))
              exact ⟨_, rfl, fun K_ hK_ => q_op _ (x_move (.bool true) rfl e24) (hK_ _ _ ⟨qv_up hV (fun _ h => Option.some.inj h), hE⟩)⟩
            · have h25 : (fr l_).tmps[25]? = some (.bool true) := hv_ 13 25 _ (by decide) rfl (hon 13 (by decide))
              exact ⟨_, rfl, fun K_ hK_ => wp_offG (wanted_off (t := 25) rfl rfl rfl h25) (hK_ undef _ ⟨qv_up hV (fun _ h => Option.some.inj h), hE⟩)⟩
            · have h25 : (fr l_).tmps[25]? = some (.bool true) := hv_ 13 25 _ (by decide) rfl (hon 13 (by decide))
              exact ⟨_, rfl, fun K_ hK_ => wp_offG (wanted_off (t := 25) rfl rfl rfl h25) (hK_ undef _ ⟨qv_up hV (fun _ h => Option.some.inj h), hE⟩)⟩
            · have h25 : (fr l_).tmps[25]? = some (.bool true) := hv_ 13 25 _ (by decide) rfl (hon 13 (by decide))
              exact ⟨_, rfl, fun K_ hK_ => wp_offG (wanted_off (t := 25) rfl rfl rfl h25) (hK_ undef _ ⟨qv_up hV (fun _ h => Option.some.inj h), hE⟩)⟩
            · have e25 : evl l_ (.tmp 25) = .bool true := evl_of (hv_ 13 25 _ (by decide) rfl (hon 13 (by decide)))
              have e28 : evl l_ (.tmp 28) = undef := evl_of (hv_ 16 28 _ (by decide) rfl (hon 16 (by decide)))
              exact ⟨_, rfl, fun K_ hK_ => q_op _ (x_pick true (.bool true) (undef) (.bool true) rfl e25 rfl e28 rfl) (hK_ _ _ ⟨qv_up hV (fun _ h => Option.some.inj h), hE⟩)⟩
            · have e29 : evl l_ (.tmp 29) = .bool true := evl_of (hv_ 17 29 _ (by decide) rfl (hon 17 (by decide)))
              exact ⟨_, rfl, fun K_ hK_ => q_op _ (x_move (.bool true) rfl e29) (hK_ _ _ ⟨qv_up hV (fun _ h => Option.some.inj h), hE⟩)⟩
            · have h30 : (fr l_).tmps[30]? = some (.bool true) := hv_ 18 30 _ (by decide) rfl (hon 18 (by decide))
              exact ⟨_, rfl, fun K_ hK_ => wp_offG (wanted_off (t := 30) rfl rfl rfl h30) (hK_ undef _ ⟨qv_up hV (fun _ h => Option.some.inj h), hE⟩)⟩
            · have h30 : (fr l_).tmps[30]? = some (.bool true) := hv_ 18 30 _ (by decide) rfl (hon 18 (by decide))
              exact ⟨_, rfl, fun K_ hK_ => wp_offG (wanted_off (t := 30) rfl rfl rfl h30) (hK_ undef _ ⟨qv_up hV (fun _ h => Option.some.inj h), hE⟩)⟩
            · have h30 : (fr l_).tmps[30]? = some (.bool true) := hv_ 18 30 _ (by decide) rfl (hon 18 (by decide))
              exact ⟨_, rfl, fun K_ hK_ => wp_offG (wanted_off (t := 30) rfl rfl rfl h30) (hK_ undef _ ⟨qv_up hV (fun _ h => Option.some.inj h), hE⟩)⟩
            · have h33 : (fr l_).tmps[33]? = some (undef) := hv_ 21 33 _ (by decide) rfl (hon 21 (by decide))
              exact ⟨_, rfl, fun K_ hK_ => wp_offG (wanted_undef (t := 33) rfl rfl rfl h33) (hK_ undef _ ⟨qv_up hV (fun _ h => Option.some.inj h), hE⟩)⟩
            · have h33 : (fr l_).tmps[33]? = some (undef) := hv_ 21 33 _ (by decide) rfl (hon 21 (by decide))
              exact ⟨_, rfl, fun K_ hK_ => wp_offG (wanted_undef (t := 33) rfl rfl rfl h33) (hK_ undef _ ⟨qv_up hV (fun _ h => Option.some.inj h), hE⟩)⟩
            · have h33 : (fr l_).tmps[33]? = some (undef) := hv_ 21 33 _ (by decide) rfl (hon 21 (by decide))
              exact ⟨_, rfl, fun K_ hK_ => wp_offG (wanted_undef (t := 33) rfl rfl rfl h33) (hK_ undef _ ⟨qv_up hV (fun _ h => Option.some.inj h), hE⟩)⟩
            · have h33 : (fr l_).tmps[33]? = some (undef) := hv_ 21 33 _ (by decide) rfl (hon 21 (by decide))
              exact ⟨_, rfl, fun K_ hK_ => wp_offG (wanted_undef (t := 33) rfl rfl rfl h33) (hK_ undef _ ⟨qv_up hV (fun _ h => Option.some.inj h), hE⟩)⟩
            · have h33 : (fr l_).tmps[33]? = some (undef) := hv_ 21 33 _ (by decide) rfl (hon 21 (by decide))
              exact ⟨_, rfl, fun K_ hK_ => wp_offG (wanted_undef (t := 33) rfl rfl rfl h33) (hK_ undef _ ⟨qv_up hV (fun _ h => Option.some.inj h), hE⟩)⟩
            · have h33 : (fr l_).tmps[33]? = some (undef) := hv_ 21 33 _ (by decide) rfl (hon 21 (by decide))
              exact ⟨_, rfl, fun K_ hK_ => wp_offG (wanted_undef (t := 33) rfl rfl rfl h33) (hK_ undef _ ⟨qv_up hV (fun _ h => Option.some.inj h), hE⟩)⟩
            · have h33 : (fr l_).tmps[33]? = some (undef) := hv_ 21 33 _ (by decide) rfl (hon 21 (by decide))
              exact ⟨_, rfl, fun K_ hK_ => wp_offG (wanted_undef (t := 33) rfl rfl rfl h33) (hK_ undef _ ⟨qv_up hV (fun _ h => Option.some.inj h), hE⟩)⟩
            · have h33 : (fr l_).tmps[33]? = some (undef) := hv_ 21 33 _ (by decide) rfl (hon 21 (by decide))
              exact ⟨_, rfl, fun K_ hK_ => wp_offG (wanted_undef (t := 33) rfl rfl rfl h33) (hK_ undef _ ⟨qv_up hV (fun _ h => Option.some.inj h), hE⟩)⟩
            · have h33 : (fr l_).tmps[33]? = some (undef) := hv_ 21 33 _ (by decide) rfl (hon 21 (by decide))
              exact ⟨_, rfl, fun K_ hK_ => wp_offG (wanted_undef (t := 33) rfl rfl rfl h33) (hK_ undef _ ⟨qv_up hV (fun _ h => Option.some.inj h), hE⟩)⟩
            · have h30 : (fr l_).tmps[30]? = some (.bool true) := hv_ 18 30 _ (by decide) rfl (hon 18 (by decide))
              exact ⟨_, rfl, fun K_ hK_ => wp_offG (wanted_off (t := 30) rfl rfl rfl h30) (hK_ undef _ ⟨qv_up hV (fun _ h => Option.some.inj h), hE⟩)⟩
            · have e30 : evl l_ (.tmp 30) = .bool true := evl_of (hv_ 18 30 _ (by decide) rfl (hon 18 (by decide)))
              have e43 : evl l_ (.tmp 43) = undef := evl_of (hv_ 31 43 _ (by decide) rfl (hon 31 (by decide)))
              exact ⟨_, rfl, fun K_ hK_ => q_op _ (x_pick true (.bool true) (undef) (.bool true) rfl e30 rfl e43 rfl) (hK_ _ _ ⟨qv_up hV (fun _ h => Option.some.inj h), hE⟩)⟩
          intro bq_ vq_ w_ hall hG
          obtain ⟨hV, hE⟩ := hG
          clear HS
          have HS := hE
          have hv0 := hV 0 _ rfl (hall 0 (by decide))
          have hv1 := hV 1 _ rfl (hall 1 (by decide))
          have hv2 := hV 2 _ rfl (hall 2 (by decide))
          have hv3 := hV 3 _ rfl (hall 3 (by decide))
          have hv4 := hV 4 _ rfl (hall 4 (by decide))
          have hv5 := hV 5 _ rfl (hall 5 (by decide))
          have hv6 := hV 6 _ rfl (hall 6 (by decide))
          have hv7 := hV 7 _ rfl (hall 7 (by decide))
          have hv8 := hV 8 _ rfl (hall 8 (by decide))
          have hv9 := hV 9 _ rfl (hall 9 (by decide))
          have hv10 := hV 10 _ rfl (hall 10 (by decide))
          have hv11 := hV 11 _ rfl (hall 11 (by decide))
          have hv12 := hV 12 _ rfl (hall 12 (by decide))
          have hv13 := hV 13 _ rfl (hall 13 (by decide))
          have hv14 := hV 14 _ rfl (hall 14 (by decide))
          have hv15 := hV 15 _ rfl (hall 15 (by decide))
          have hv16 := hV 16 _ rfl (hall 16 (by decide))
          have hv17 := hV 17 _ rfl (hall 17 (by decide))
          have hv18 := hV 18 _ rfl (hall 18 (by decide))
          have hv19 := hV 19 _ rfl (hall 19 (by decide))
          have hv20 := hV 20 _ rfl (hall 20 (by decide))
          have hv21 := hV 21 _ rfl (hall 21 (by decide))
          have hv22 := hV 22 _ rfl (hall 22 (by decide))
          have hv23 := hV 23 _ rfl (hall 23 (by decide))
          have hv24 := hV 24 _ rfl (hall 24 (by decide))
          have hv25 := hV 25 _ rfl (hall 25 (by decide))
          have hv26 := hV 26 _ rfl (hall 26 (by decide))
          have hv27 := hV 27 _ rfl (hall 27 (by decide))
          have hv28 := hV 28 _ rfl (hall 28 (by decide))
          have hv29 := hV 29 _ rfl (hall 29 (by decide))
          have hv30 := hV 30 _ rfl (hall 30 (by decide))
          have hv31 := hV 31 _ rfl (hall 31 (by decide))
          have hv32 := hV 32 _ rfl (hall 32 (by decide))
          clear hV hall
          rw [putSel_fr]
          simp only [tells, List.map_cons, List.map_nil, setAll, List.set_cons_succ, List.set_cons_zero, hv0, hv1, hv2, hv3, hv4, hv5, hv6, hv7, hv8, hv9, hv10, hv11, hv12, hv13, hv14, hv15, hv16, hv17, hv18, hv19, hv20, hv21, hv22, hv23, hv24, hv25, hv26, hv27, hv28, hv29, hv30, hv31, hv32]
          clear hv0 hv1 hv2 hv3 hv4 hv5 hv6 hv7 hv8 hv9 hv10 hv11 hv12 hv13 hv14 hv15 hv16 hv17 hv18 hv19 hv20 hv21 hv22 hv23 hv24 hv25 hv26 hv27 hv28 hv29 hv30 hv31 hv32
          generalize w_ = w900501 at HS ⊢
          refine fr_at (l' := (.slice (some ad) es.length c :: undef :: uq11.1 :: .int .i64 (j : Int) :: .pointer (some ⟨g34, 0, none⟩) :: .slice (some ad) es.length c :: .int .i64 (es.length : Int) :: .int .i64 (j : Int) :: .bool (decide ((j : Int) < (es.length : Int))) :: .int .i64 (j : Int) :: .pointer (some ((ad).add (j * 2))) :: .agg ([.int .i64 x.1, .int .i64 x.2] : List Value).toArray :: .pointer (some ⟨g34, 0, none⟩) :: .int .i64 x.1 :: .bool false :: .bool false :: .pointer (some ⟨g34, 0, none⟩) :: .int .i64 x.1 :: .bool true :: .bool true :: .bool true :: undef :: undef :: undef :: .bool true :: .bool true :: undef :: undef :: undef :: .bool true :: .bool true :: U8l1 (U4l1 (undef :: .bool true :: uq17.2.2.2.2 :: U8l1 ([]))))) rfl ?_
          refine hK39 _ _ ?_
          refine c_true rfl ?_
          refine wp_seq_k (fun K900502 hK900503 => ?_)
          refine c_region (fun ops900505 hops900504 => ?_)
          clear hops900504
          refine p_run (l' := _) _ (x_assign (.bool false) rfl rfl) rfl ?_
          refine wpList_nil ?_
          refine hK900503 _ _ ?_
          refine wp_ret ?_
          try simp only [Exit.inBlock, Exit.then]
          refine c_ret (.bool false) (r_tmp rfl rfl) ?_
          rw [rise_no hlt he]
          exact ⟨rfl, HS.belowOf⟩
        · skip
          refine free_frame (n := 33) (T := _) [0, 1, 3, 7, 15, 31, 63, 127, 255, 511, 1023, 2047, 4095, 8191, 16383, 32767, 65535, 131071, 262143, 524287, 1048575, 2097151, 4194303, 8388607, 4194303, 4194303, 37748735, 121634815, 255852543, 524287999, 1073741823, 2147483647, 4294967295] [(0, 12), (1, 13), (2, 14), (3, 15), (4, 16), (5, 17), (6, 18), (7, 19), (8, 20), (9, 21), (10, 22), (11, 23), (12, 24), (13, 25), (14, 26), (15, 27), (16, 28), (17, 29), (18, 30), (19, 31), (20, 32), (21, 33), (22, 34), (23, 35), (24, 36), (25, 37), (26, 38), (27, 39), (28, 40), (29, 41), (30, 42), (31, 43), (32, 44)] (fun bq_ vq_ w_ => qv ((fun i_ => match i_ with | 0 => some (.pointer (some ⟨g34, 0, none⟩)) | 1 => some (.int .i64 x.1) | 2 => some (.bool false) | 3 => some (.bool false) | 4 => some (.pointer (some ⟨g34, 0, none⟩)) | 5 => some (.int .i64 x.1) | 6 => some (.bool false) | 7 => some (.bool false) | 8 => some (.bool false) | 9 => some (.pointer (some ⟨g34, 1, none⟩)) | 10 => some (.int .i64 x.2) | 11 => some (.bool true) | 12 => some (.bool true) | 13 => some (.bool true) | 14 => some (undef) | 15 => some (undef) | 16 => some (undef) | 17 => some (.bool true) | 18 => some (.bool true) | 19 => some (undef) | 20 => some (undef) | 21 => some (undef) | 22 => some (undef) | 23 => some (undef) | 24 => some (undef) | 25 => some (undef) | 26 => some (undef) | 27 => some (undef) | 28 => some (undef) | 29 => some (undef) | 30 => some (undef) | 31 => some (undef) | 32 => some (.bool true) | _ => none) : Nat → Option Value) bq_ vq_ ∧ (St w (fun _ => False) w_ ([blk g34 [.int .i64 x.1, .int .i64 x.2] 62]))) (by kernel_rfl) rfl rfl (by kernel_rfl) (by kernel_rfl) rfl (by kernel_rfl) (by kernel_rfl) ⟨qv_none, HS.draw⟩ ?_ ?_
          · clear HS
            intro i_ hi_ bq_ vq_ a_ w_ hG hb_ hon hoff hfr hel hval
            obtain ⟨hV, hE⟩ := hG
            have hi_ := List.mem_range.1 hi_
            obtain ⟨l_, rfl⟩ := hfr
            have hv_ := fun (j t : Nat) (v : Value) (h1 : (j, t) ∈ [(0, 12), (1, 13), (2, 14), (3, 15), (4, 16), (5, 17), (6, 18), (7, 19), (8, 20), (9, 21), (10, 22), (11, 23), (12, 24), (13, 25), (14, 26), (15, 27), (16, 28), (17, 29), (18, 30), (19, 31), (20, 32), (21, 33), (22, 34), (23, 35), (24, 36), (25, 37), (26, 38), (27, 39), (28, 40), (29, 41), (30, 42), (31, 43), (32, 44)]) h2 h3 => (hval (j, t) h1 h3).trans (congrArg some (hV j v h2 h3))
            have hcs : i_ = 0 ∨ i_ = 1 ∨ i_ = 2 ∨ i_ = 3 ∨ i_ = 4 ∨ i_ = 5 ∨ i_ = 6 ∨ i_ = 7 ∨ i_ = 8 ∨ i_ = 9 ∨ i_ = 10 ∨ i_ = 11 ∨ i_ = 12 ∨ i_ = 13 ∨ i_ = 14 ∨ i_ = 15 ∨ i_ = 16 ∨ i_ = 17 ∨ i_ = 18 ∨ i_ = 19 ∨ i_ = 20 ∨ i_ = 21 ∨ i_ = 22 ∨ i_ = 23 ∨ i_ = 24 ∨ i_ = 25 ∨ i_ = 26 ∨ i_ = 27 ∨ i_ = 28 ∨ i_ = 29 ∨ i_ = 30 ∨ i_ = 31 ∨ i_ = 32 := by omega
            rcases hcs with rfl | rfl | rfl | rfl | rfl | rfl | rfl | rfl | rfl | rfl | rfl | rfl | rfl | rfl | rfl | rfl | rfl | rfl | rfl | rfl | rfl | rfl | rfl | rfl | rfl | rfl | rfl | rfl | rfl | rfl | rfl | rfl | rfl
            · have e4 : evl l_ (.tmp 4) = .pointer (some ⟨g34, 0, none⟩) := evl_of ((hel 4 (by decide)).trans rfl)
              exact ⟨_, rfl, fun K_ hK_ => q_op _ (x_field (j := 0) _ _ rfl e4 Try.underlying62 rfl (by rfl) rfl) (hK_ _ _ ⟨qv_up hV (fun _ h => Option.some.inj h), hE⟩)⟩
            · have hE0 := hE
              have HS := hE0
              have e12 : evl l_ (.tmp 12) = .pointer (some ⟨g34, 0, none⟩) := evl_of (hv_ 0 12 _ (by decide) rfl (hon 0 (by decide)))
              exact ⟨_, rfl, fun K_ hK_ => q_op _ (x_load (.int .i64 x.1) rfl e12 (bkCell (HS.get (.head _)) 0 _ rfl) (by rfl)) (hK_ _ _ ⟨qv_up hV (fun _ h => Option.some.inj h), hE⟩)⟩
            · have e13 : evl l_ (.tmp 13) = .int .i64 x.1 := evl_of (hv_ 1 13 _ (by decide) rfl (hon 1 (by decide)))
              exact ⟨_, rfl, fun K_ hK_ => q_op _ (x_cmp (k := .i64) (m := x.1) (n := 0) .lss false rfl e13 rfl (decide_eq_false h1) rfl) (hK_ _ _ ⟨qv_up hV (fun _ h => Option.some.inj h), hE⟩)⟩
            · have e14 : evl l_ (.tmp 14) = .bool false := evl_of (hv_ 2 14 _ (by decide) rfl (hon 2 (by decide)))
              exact ⟨_, rfl, fun K_ hK_ => q_op _ (x_move (.bool false) rfl e14) (hK_ _ _ ⟨qv_up hV (fun _ h => Option.some.inj h), hE⟩)⟩
            · have h15 : (fr l_).tmps[15]? = some (.bool false) := hv_ 3 15 _ (by decide) rfl (hon 3 (by decide))
              have e4 : evl l_ (.tmp 4) = .pointer (some ⟨g34, 0, none⟩) := evl_of ((hel 4 (by decide)).trans rfl)
              have e15 : evl l_ (.tmp 15) = .bool false := evl_of h15
              exact ⟨_, rfl, fun K_ hK_ => q_opG (wanted_on (t := 15) rfl rfl rfl h15) _ (x_field (j := 0) _ _ rfl e4 Try.underlying62 rfl (by rfl) rfl) (hK_ _ _ ⟨qv_up hV (fun _ h => Option.some.inj h), hE⟩)⟩
            · have h15 : (fr l_).tmps[15]? = some (.bool false) := hv_ 3 15 _ (by decide) rfl (hon 3 (by decide))
              have hE0 := hE
              have HS := hE0
              have e15 : evl l_ (.tmp 15) = .bool false := evl_of h15
              have e16 : evl l_ (.tmp 16) = .pointer (some ⟨g34, 0, none⟩) := evl_of (hv_ 4 16 _ (by decide) rfl (hon 4 (by decide)))
              exact ⟨_, rfl, fun K_ hK_ => q_opG (wanted_on (t := 15) rfl rfl rfl h15) _ (x_load (.int .i64 x.1) rfl e16 (bkCell (HS.get (.head _)) 0 _ rfl) (by rfl)) (hK_ _ _ ⟨qv_up hV (fun _ h => Option.some.inj h), hE⟩)⟩
            · have h15 : (fr l_).tmps[15]? = some (.bool false) := hv_ 3 15 _ (by decide) rfl (hon 3 (by decide))
              have e15 : evl l_ (.tmp 15) = .bool false := evl_of h15
              have e17 : evl l_ (.tmp 17) = .int .i64 x.1 := evl_of (hv_ 5 17 _ (by decide) rfl (hon 5 (by decide)))
              exact ⟨_, rfl, fun K_ hK_ => q_opG (wanted_on (t := 15) rfl rfl rfl h15) _ (x_cmp (k := .i64) (m := x.1) (n := 64) .geq false rfl e17 rfl (decide_eq_false h2) rfl) (hK_ _ _ ⟨qv_up hV (fun _ h => Option.some.inj h), hE⟩)⟩
            · have e15 : evl l_ (.tmp 15) = .bool false := evl_of (hv_ 3 15 _ (by decide) rfl (hon 3 (by decide)))
              have e18 : evl l_ (.tmp 18) = .bool false := evl_of (hv_ 6 18 _ (by decide) rfl (hon 6 (by decide)))
              exact ⟨_, rfl, fun K_ hK_ => q_op _ (x_pick false (.bool true) (.bool false) (.bool false) rfl e15 rfl e18 rfl) (hK_ _ _ ⟨qv_up hV (fun _ h => Option.some.inj h), hE⟩)⟩
            · have e19 : evl l_ (.tmp 19) = .bool false := evl_of (hv_ 7 19 _ (by decide) rfl (hon 7 (by decide)))
              exact ⟨_, rfl, fun K_ hK_ => q_op _ (x_move (.bool false) rfl e19) (hK_ _ _ ⟨qv_up hV (fun _ h => Option.some.inj h), hE⟩)⟩
            · have h20 : (fr l_).tmps[20]? = some (.bool false) := hv_ 8 20 _ (by decide) rfl (hon 8 (by decide))
              have e4 : evl l_ (.tmp 4) = .pointer (some ⟨g34, 0, none⟩) := evl_of ((hel 4 (by decide)).trans rfl)
              have e20 : evl l_ (.tmp 20) = .bool false := evl_of h20
              exact ⟨_, rfl, fun K_ hK_ => q_opG (wanted_on (t := 20) rfl rfl rfl h20) _ (x_field (j := 1) _ _ rfl e4 Try.underlying62 rfl (by rfl) rfl) (hK_ _ _ ⟨qv_up hV (fun _ h => Option.some.inj h), hE⟩)⟩
            · have h20 : (fr l_).tmps[20]? = some (.bool false) := hv_ 8 20 _ (by decide) rfl (hon 8 (by decide))
              have hE0 := hE
              have HS := hE0
              have e20 : evl l_ (.tmp 20) = .bool false := evl_of h20
              have e21 : evl l_ (.tmp 21) = .pointer (some ⟨g34, 1, none⟩) := evl_of (hv_ 9 21 _ (by decide) rfl (hon 9 (by decide)))
              exact ⟨_, rfl, fun K_ hK_ => q_opG (wanted_on (t := 20) rfl rfl rfl h20) _ (x_load (.int .i64 x.2) rfl e21 (bkCell (HS.get (.head _)) 1 _ rfl) (by rfl)) (hK_ _ _ ⟨qv_up hV (fun _ h => Option.some.inj h), hE⟩)⟩
            · have h20 : (fr l_).tmps[20]? = some (.bool false) := hv_ 8 20 _ (by decide) rfl (hon 8 (by decide))
              have e20 : evl l_ (.tmp 20) = .bool false := evl_of h20
              have e22 : evl l_ (.tmp 22) = .int .i64 x.2 := evl_of (hv_ 10 22 _ (by decide) rfl (hon 10 (by decide)))
              exact ⟨_, rfl, fun K_ hK_ => q_opG (wanted_on (t := 20) rfl rfl rfl h20) _ (x_cmp (k := .i64) (m := x.2) (n := 0) .lss true rfl e22 rfl (decide_eq_true h3) rfl) (hK_ _ _ ⟨qv_up hV (fun _ h => Option.some.inj h), hE⟩)⟩
            · have e20 : evl l_ (.tmp 20) = .bool false := evl_of (hv_ 8 20 _ (by decide) rfl (hon 8 (by decide)))
              have e23 : evl l_ (.tmp 23) = .bool true := evl_of (hv_ 11 23 _ (by decide) rfl (hon 11 (by decide)))
              exact ⟨_, rfl, fun K_ hK_ => q_op _ (x_pick false (.bool true) (.bool true) (.bool true) rfl e20 rfl e23 rfl) (hK_ _ _ ⟨qv_up hV (fun _ h => Option.some.inj h), hE⟩)⟩
            · have e24 : evl l_ (.tmp 24) = .bool true := evl_of (hv_ 12 24 _ (by decide) rfl (hon 12 (by decide)))
              exact ⟨_, rfl, fun K_ hK_ => q_op _ (x_move (.bool true) rfl e24) (hK_ _ _ ⟨qv_up hV (fun _ h => Option.some.inj h), hE⟩)⟩
            · have h25 : (fr l_).tmps[25]? = some (.bool true) := hv_ 13 25 _ (by decide) rfl (hon 13 (by decide))
              exact ⟨_, rfl, fun K_ hK_ => wp_offG (wanted_off (t := 25) rfl rfl rfl h25) (hK_ undef _ ⟨qv_up hV (fun _ h => Option.some.inj h), hE⟩)⟩
            · have h25 : (fr l_).tmps[25]? = some (.bool true) := hv_ 13 25 _ (by decide) rfl (hon 13 (by decide))
              exact ⟨_, rfl, fun K_ hK_ => wp_offG (wanted_off (t := 25) rfl rfl rfl h25) (hK_ undef _ ⟨qv_up hV (fun _ h => Option.some.inj h), hE⟩)⟩
            · have h25 : (fr l_).tmps[25]? = some (.bool true) := hv_ 13 25 _ (by decide) rfl (hon 13 (by decide))
              exact ⟨_, rfl, fun K_ hK_ => wp_offG (wanted_off (t := 25) rfl rfl rfl h25) (hK_ undef _ ⟨qv_up hV (fun _ h => Option.some.inj h), hE⟩)⟩
            · have e25 : evl l_ (.tmp 25) = .bool true := evl_of (hv_ 13 25 _ (by decide) rfl (hon 13 (by decide)))
              have e28 : evl l_ (.tmp 28) = undef := evl_of (hv_ 16 28 _ (by decide) rfl (hon 16 (by decide)))
              exact ⟨_, rfl, fun K_ hK_ => q_op _ (x_pick true (.bool true) (undef) (.bool true) rfl e25 rfl e28 rfl) (hK_ _ _ ⟨qv_up hV (fun _ h => Option.some.inj h), hE⟩)⟩
            · have e29 : evl l_ (.tmp 29) = .bool true := evl_of (hv_ 17 29 _ (by decide) rfl (hon 17 (by decide)))
              exact ⟨_, rfl, fun K_ hK_ => q_op _ (x_move (.bool true) rfl e29) (hK_ _ _ ⟨qv_up hV (fun _ h => Option.some.inj h), hE⟩)⟩
            · have h30 : (fr l_).tmps[30]? = some (.bool true) := hv_ 18 30 _ (by decide) rfl (hon 18 (by decide))
              exact ⟨_, rfl, fun K_ hK_ => wp_offG (wanted_off (t := 30) rfl rfl rfl h30) (hK_ undef _ ⟨qv_up hV (fun _ h => Option.some.inj h), hE⟩)⟩
            · have h30 : (fr l_).tmps[30]? = some (.bool true) := hv_ 18 30 _ (by decide) rfl (hon 18 (by decide))
              exact ⟨_, rfl, fun K_ hK_ => wp_offG (wanted_off (t := 30) rfl rfl rfl h30) (hK_ undef _ ⟨qv_up hV (fun _ h => Option.some.inj h), hE⟩)⟩
            · have h30 : (fr l_).tmps[30]? = some (.bool true) := hv_ 18 30 _ (by decide) rfl (hon 18 (by decide))
              exact ⟨_, rfl, fun K_ hK_ => wp_offG (wanted_off (t := 30) rfl rfl rfl h30) (hK_ undef _ ⟨qv_up hV (fun _ h => Option.some.inj h), hE⟩)⟩
            · have h33 : (fr l_).tmps[33]? = some (undef) := hv_ 21 33 _ (by decide) rfl (hon 21 (by decide))
              exact ⟨_, rfl, fun K_ hK_ => wp_offG (wanted_undef (t := 33) rfl rfl rfl h33) (hK_ undef _ ⟨qv_up hV (fun _ h => Option.some.inj h), hE⟩)⟩
            · have h33 : (fr l_).tmps[33]? = some (undef) := hv_ 21 33 _ (by decide) rfl (hon 21 (by decide))
              exact ⟨_, rfl, fun K_ hK_ => wp_offG (wanted_undef (t := 33) rfl rfl rfl h33) (hK_ undef _ ⟨qv_up hV (fun _ h => Option.some.inj h), hE⟩)⟩
            · have h33 : (fr l_).tmps[33]? = some (undef) := hv_ 21 33 _ (by decide) rfl (hon 21 (by decide))
              exact ⟨_, rfl, fun K_ hK_ => wp_offG (wanted_undef (t := 33) rfl rfl rfl h33) (hK_ undef _ ⟨qv_up hV (fun _ h => Option.some.inj h), hE⟩)⟩
            · have h33 : (fr l_).tmps[33]? = some (undef) := hv_ 21 33 _ (by decide) rfl (hon 21 (by decide))
              exact ⟨_, rfl, fun K_ hK_ => wp_offG (wanted_undef (t := 33) rfl rfl rfl h33) (hK_ undef _ ⟨qv_up hV (fun _ h => Option.some.inj h), hE⟩)⟩
            · have h33 : (fr l_).tmps[33]? = some (undef) := hv_ 21 33 _ (by decide) rfl (hon 21 (by decide))
              exact ⟨_, rfl, fun K_ hK_ => wp_offG (wanted_undef (t := 33) rfl rfl rfl h33) (hK_ undef _ ⟨qv_up hV (fun _ h => Option.some.inj h), hE⟩)⟩
            · have h33 : (fr l_).tmps[33]? = some (undef) := hv_ 21 33 _ (by decide) rfl (hon 21 (by decide))
              exact ⟨_, rfl, fun K_ hK_ => wp_offG (wanted_undef (t := 33) rfl rfl rfl h33) (hK_ undef _ ⟨qv_up hV (fun _ h => Option.some.inj h), hE⟩)⟩
            · have h33 : (fr l_).tmps[33]? = some (undef) := hv_ 21 33 _ (by decide) rfl (hon 21 (by decide))
              exact ⟨_, rfl, fun K_ hK_ => wp_offG (wanted_undef (t := 33) rfl rfl rfl h33) (hK_ undef _ ⟨qv_up hV (fun _ h => Option.some.inj h), hE⟩)⟩
            · have h33 : (fr l_).tmps[33]? = some (undef) := hv_ 21 33 _ (by decide) rfl (hon 21 (by decide))
              exact ⟨_, rfl, fun K_ hK_ => wp_offG (wanted_undef (t := 33) rfl rfl rfl h33) (hK_ undef _ ⟨qv_up hV (fun _ h => Option.some.inj h), hE⟩)⟩
            · have h33 : (fr l_).tmps[33]? = some (undef) := hv_ 21 33 _ (by decide) rfl (hon 21 (by decide))
              exact ⟨_, rfl, fun K_ hK_ => wp_offG (wanted_undef (t := 33) rfl rfl rfl h33) (hK_ undef _ ⟨qv_up hV (fun _ h => Option.some.inj h), hE⟩)⟩
            · have h30 : (fr l_).tmps[30]? = some (.bool true) := hv_ 18 30 _ (by decide) rfl (hon 18 (by decide))
              exact ⟨_, rfl, fun K_ hK_ => wp_offG (wanted_off (t := 30) rfl rfl rfl h30) (hK_ undef _ ⟨qv_up hV (fun _ h => Option.some.inj h), hE⟩)⟩
            · have e30 : evl l_ (.tmp 30) = .bool true := evl_of (hv_ 18 30 _ (by decide) rfl (hon 18 (by decide)))
              have e43 : evl l_ (.tmp 43) = undef := evl_of (hv_ 31 43 _ (by decide) rfl (hon 31 (by decide)))
              exact ⟨_, rfl, fun K_ hK_ => q_op _ (x_pick true (.bool true) (undef) (.bool true) rfl e30 rfl e43 rfl) (hK_ _ _ ⟨qv_up hV (fun _ h => Option.some.inj h), hE⟩)⟩
          intro bq_ vq_ w_ hall hG
          obtain ⟨hV, hE⟩ := hG
          clear HS
          have HS := hE
          have hv0 := hV 0 _ rfl (hall 0 (by decide))
          have hv1 := hV 1 _ rfl (hall 1 (by decide))
          have hv2 := hV 2 _ rfl (hall 2 (by decide))
          have hv3 := hV 3 _ rfl (hall 3 (by decide))
          have hv4 := hV 4 _ rfl (hall 4 (by decide))
          have hv5 := hV 5 _ rfl (hall 5 (by decide))
          have hv6 := hV 6 _ rfl (hall 6 (by decide))
          have hv7 := hV 7 _ rfl (hall 7 (by decide))
          have hv8 := hV 8 _ rfl (hall 8 (by decide))
          have hv9 := hV 9 _ rfl (hall 9 (by decide))
          have hv10 := hV 10 _ rfl (hall 10 (by decide))
          have hv11 := hV 11 _ rfl (hall 11 (by decide))
          have hv12 := hV 12 _ rfl (hall 12 (by decide))
          have hv13 := hV 13 _ rfl (hall 13 (by decide))
          have hv14 := hV 14 _ rfl (hall 14 (by decide))
          have hv15 := hV 15 _ rfl (hall 15 (by decide))
          have hv16 := hV 16 _ rfl (hall 16 (by decide))
          have hv17 := hV 17 _ rfl (hall 17 (by decide))
          have hv18 := hV 18 _ rfl (hall 18 (by decide))
          have hv19 := hV 19 _ rfl (hall 19 (by decide))
          have hv20 := hV 20 _ rfl (hall 20 (by decide))
          have hv21 := hV 21 _ rfl (hall 21 (by decide))
          have hv22 := hV 22 _ rfl (hall 22 (by decide))
          have hv23 := hV 23 _ rfl (hall 23 (by decide))
          have hv24 := hV 24 _ rfl (hall 24 (by decide))
          have hv25 := hV 25 _ rfl (hall 25 (by decide))
          have hv26 := hV 26 _ rfl (hall 26 (by decide))
          have hv27 := hV 27 _ rfl (hall 27 (by decide))
          have hv28 := hV 28 _ rfl (hall 28 (by decide))
          have hv29 := hV 29 _ rfl (hall 29 (by decide))
          have hv30 := hV 30 _ rfl (hall 30 (by decide))
          have hv31 := hV 31 _ rfl (hall 31 (by decide))
          have hv32 := hV 32 _ rfl (hall 32 (by decide))
          clear hV hall
          rw [putSel_fr]
          simp only [tells, List.map_cons, List.map_nil, setAll, List.set_cons_succ, List.set_cons_zero, hv0, hv1, hv2, hv3, hv4, hv5, hv6, hv7, hv8, hv9, hv10, hv11, hv12, hv13, hv14, hv15, hv16, hv17, hv18, hv19, hv20, hv21, hv22, hv23, hv24, hv25, hv26, hv27, hv28, hv29, hv30, hv31, hv32]
          clear hv0 hv1 hv2 hv3 hv4 hv5 hv6 hv7 hv8 hv9 hv10 hv11 hv12 hv13 hv14 hv15 hv16 hv17 hv18 hv19 hv20 hv21 hv22 hv23 hv24 hv25 hv26 hv27 hv28 hv29 hv30 hv31 hv32
          generalize w_ = w901001 at HS ⊢
          refine fr_at (l' := (.slice (some ad) es.length c :: undef :: uq11.1 :: .int .i64 (j : Int) :: .pointer (some ⟨g34, 0, none⟩) :: .slice (some ad) es.length c :: .int .i64 (es.length : Int) :: .int .i64 (j : Int) :: .bool (decide ((j : Int) < (es.length : Int))) :: .int .i64 (j : Int) :: .pointer (some ((ad).add (j * 2))) :: .agg ([.int .i64 x.1, .int .i64 x.2] : List Value).toArray :: .pointer (some ⟨g34, 0, none⟩) :: .int .i64 x.1 :: .bool false :: .bool false :: .pointer (some ⟨g34, 0, none⟩) :: .int .i64 x.1 :: .bool false :: .bool false :: .bool false :: .pointer (some ⟨g34, 1, none⟩) :: .int .i64 x.2 :: .bool true :: .bool true :: .bool true :: undef :: undef :: undef :: .bool true :: .bool true :: U8l1 (U4l1 (undef :: .bool true :: uq17.2.2.2.2 :: U8l1 ([]))))) rfl ?_
          refine hK39 _ _ ?_
          refine c_true rfl ?_
          refine wp_seq_k (fun K901002 hK901003 => ?_)
          refine c_region (fun ops901005 hops901004 => ?_)
          clear hops901004
          refine p_run (l' := _) _ (x_assign (.bool false) rfl rfl) rfl ?_
          refine wpList_nil ?_
          refine hK901003 _ _ ?_
          refine wp_ret ?_
          try simp only [Exit.inBlock, Exit.then]
          refine c_ret (.bool false) (r_tmp rfl rfl) ?_
          rw [rise_no hlt he]
          exact ⟨rfl, HS.belowOf⟩
        · skip
          refine free_frame (n := 33) (T := _) [0, 1, 3, 7, 15, 31, 63, 127, 255, 511, 1023, 2047, 4095, 8191, 16383, 32767, 65535, 131071, 262143, 524287, 1048575, 2097151, 4194303, 8388607, 4194303, 4194303, 37748735, 121634815, 255852543, 524287999, 1073741823, 2147483647, 4294967295] [(0, 12), (1, 13), (2, 14), (3, 15), (4, 16), (5, 17), (6, 18), (7, 19), (8, 20), (9, 21), (10, 22), (11, 23), (12, 24), (13, 25), (14, 26), (15, 27), (16, 28), (17, 29), (18, 30), (19, 31), (20, 32), (21, 33), (22, 34), (23, 35), (24, 36), (25, 37), (26, 38), (27, 39), (28, 40), (29, 41), (30, 42), (31, 43), (32, 44)] (fun bq_ vq_ w_ => qv ((fun i_ => match i_ with | 0 => some (.pointer (some ⟨g34, 0, none⟩)) | 1 => some (.int .i64 x.1) | 2 => some (.bool false) | 3 => some (.bool false) | 4 => some (.pointer (some ⟨g34, 0, none⟩)) | 5 => some (.int .i64 x.1) | 6 => some (.bool false) | 7 => some (.bool false) | 8 => some (.bool false) | 9 => some (.pointer (some ⟨g34, 1, none⟩)) | 10 => some (.int .i64 x.2) | 11 => some (.bool false) | 12 => some (.bool false) | 13 => some (.bool false) | 14 => some (.pointer (some ⟨g34, 1, none⟩)) | 15 => some (.int .i64 x.2) | 16 => some (.bool true) | 17 => some (.bool true) | 18 => some (.bool true) | 19 => some (undef) | 20 => some (undef) | 21 => some (undef) | 22 => some (undef) | 23 => some (undef) | 24 => some (undef) | 25 => some (undef) | 26 => some (undef) | 27 => some (undef) | 28 => some (undef) | 29 => some (undef) | 30 => some (undef) | 31 => some (undef) | 32 => some (.bool true) | _ => none) : Nat → Option Value) bq_ vq_ ∧ (St w (fun _ => False) w_ ([blk g34 [.int .i64 x.1, .int .i64 x.2] 62]))) (by kernel_rfl) rfl rfl (by kernel_rfl) (by kernel_rfl) rfl (by kernel_rfl) (by kernel_rfl) ⟨qv_none, HS.draw⟩ ?_ ?_
          · clear HS
            intro i_ hi_ bq_ vq_ a_ w_ hG hb_ hon hoff hfr hel hval
            obtain ⟨hV, hE⟩ := hG
            have hi_ := List.mem_range.1 hi_
            obtain ⟨l_, rfl⟩ := hfr
            have hv_ := fun (j t : Nat) (v : Value) (h1 : (j, t) ∈ [(0, 12), (1, 13), (2, 14), (3, 15), (4, 16), (5, 17), (6, 18), (7, 19), (8, 20), (9, 21), (10, 22), (11, 23), (12, 24), (13, 25), (14, 26), (15, 27), (16, 28), (17, 29), (18, 30), (19, 31), (20, 32), (21, 33), (22, 34), (23, 35), (24, 36), (25, 37), (26, 38), (27, 39), (28, 40), (29, 41), (30, 42), (31, 43), (32, 44)]) h2 h3 => (hval (j, t) h1 h3).trans (congrArg some (hV j v h2 h3))
            have hcs : i_ = 0 ∨ i_ = 1 ∨ i_ = 2 ∨ i_ = 3 ∨ i_ = 4 ∨ i_ = 5 ∨ i_ = 6 ∨ i_ = 7 ∨ i_ = 8 ∨ i_ = 9 ∨ i_ = 10 ∨ i_ = 11 ∨ i_ = 12 ∨ i_ = 13 ∨ i_ = 14 ∨ i_ = 15 ∨ i_ = 16 ∨ i_ = 17 ∨ i_ = 18 ∨ i_ = 19 ∨ i_ = 20 ∨ i_ = 21 ∨ i_ = 22 ∨ i_ = 23 ∨ i_ = 24 ∨ i_ = 25 ∨ i_ = 26 ∨ i_ = 27 ∨ i_ = 28 ∨ i_ = 29 ∨ i_ = 30 ∨ i_ = 31 ∨ i_ = 32 := by omega
            rcases hcs with rfl | rfl | rfl | rfl | rfl | rfl | rfl | rfl | rfl | rfl | rfl | rfl | rfl | rfl | rfl | rfl | rfl | rfl | rfl | rfl | rfl | rfl | rfl | rfl | rfl | rfl | rfl | rfl | rfl | rfl | rfl | rfl | rfl
            · have e4 : evl l_ (.tmp 4) = .pointer (some ⟨g34, 0, none⟩) := evl_of ((hel 4 (by decide)).trans rfl)
              exact ⟨_, rfl, fun K_ hK_ => q_op _ (x_field (j := 0) _ _ rfl e4 Try.underlying62 rfl (by rfl) rfl) (hK_ _ _ ⟨qv_up hV (fun _ h => Option.some.inj h), hE⟩)⟩
            · have hE0 := hE
              have HS := hE0
              have e12 : evl l_ (.tmp 12) = .pointer (some ⟨g34, 0, none⟩) := evl_of (hv_ 0 12 _ (by decide) rfl (hon 0 (by decide)))
              exact ⟨_, rfl, fun K_ hK_ => q_op _ (x_load (.int .i64 x.1) rfl e12 (bkCell (HS.get (.head _)) 0 _ rfl) (by rfl)) (hK_ _ _ ⟨qv_up hV (fun _ h => Option.some.inj h), hE⟩)⟩
            · have e13 : evl l_ (.tmp 13) = .int .i64 x.1 := evl_of (hv_ 1 13 _ (by decide) rfl (hon 1 (by decide)))
              exact ⟨_, rfl, fun K_ hK_ => q_op _ (x_cmp (k := .i64) (m := x.1) (n := 0) .lss false rfl e13 rfl (decide_eq_false h1) rfl) (hK_ _ _ ⟨qv_up hV (fun _ h => Option.some.inj h), hE⟩)⟩
            · have e14 : evl l_ (.tmp 14) = .bool false := evl_of (hv_ 2 14 _ (by decide) rfl (hon 2 (by decide)))
              exact ⟨_, rfl, fun K_ hK_ => q_op _ (x_move (.bool false) rfl e14) (hK_ _ _ ⟨qv_up hV (fun _ h => Option.some.inj h), hE⟩)⟩
            · have h15 : (fr l_).tmps[15]? = some (.bool false) := hv_ 3 15 _ (by decide) rfl (hon 3 (by decide))
              have e4 : evl l_ (.tmp 4) = .pointer (some ⟨g34, 0, none⟩) := evl_of ((hel 4 (by decide)).trans rfl)
              have e15 : evl l_ (.tmp 15) = .bool false := evl_of h15
              exact ⟨_, rfl, fun K_ hK_ => q_opG (wanted_on (t := 15) rfl rfl rfl h15) _ (x_field (j := 0) _ _ rfl e4 Try.underlying62 rfl (by rfl) rfl) (hK_ _ _ ⟨qv_up hV (fun _ h => Option.some.inj h), hE⟩)⟩
            · have h15 : (fr l_).tmps[15]? = some (.bool false) := hv_ 3 15 _ (by decide) rfl (hon 3 (by decide))
              have hE0 := hE
              have HS := hE0
              have e15 : evl l_ (.tmp 15) = .bool false := evl_of h15
              have e16 : evl l_ (.tmp 16) = .pointer (some ⟨g34, 0, none⟩) := evl_of (hv_ 4 16 _ (by decide) rfl (hon 4 (by decide)))
              exact ⟨_, rfl, fun K_ hK_ => q_opG (wanted_on (t := 15) rfl rfl rfl h15) _ (x_load (.int .i64 x.1) rfl e16 (bkCell (HS.get (.head _)) 0 _ rfl) (by rfl)) (hK_ _ _ ⟨qv_up hV (fun _ h => Option.some.inj h), hE⟩)⟩
            · have h15 : (fr l_).tmps[15]? = some (.bool false) := hv_ 3 15 _ (by decide) rfl (hon 3 (by decide))
              have e15 : evl l_ (.tmp 15) = .bool false := evl_of h15
              have e17 : evl l_ (.tmp 17) = .int .i64 x.1 := evl_of (hv_ 5 17 _ (by decide) rfl (hon 5 (by decide)))
              exact ⟨_, rfl, fun K_ hK_ => q_opG (wanted_on (t := 15) rfl rfl rfl h15) _ (x_cmp (k := .i64) (m := x.1) (n := 64) .geq false rfl e17 rfl (decide_eq_false h2) rfl) (hK_ _ _ ⟨qv_up hV (fun _ h => Option.some.inj h), hE⟩)⟩
            · have e15 : evl l_ (.tmp 15) = .bool false := evl_of (hv_ 3 15 _ (by decide) rfl (hon 3 (by decide)))
              have e18 : evl l_ (.tmp 18) = .bool false := evl_of (hv_ 6 18 _ (by decide) rfl (hon 6 (by decide)))
              exact ⟨_, rfl, fun K_ hK_ => q_op _ (x_pick false (.bool true) (.bool false) (.bool false) rfl e15 rfl e18 rfl) (hK_ _ _ ⟨qv_up hV (fun _ h => Option.some.inj h), hE⟩)⟩
            · have e19 : evl l_ (.tmp 19) = .bool false := evl_of (hv_ 7 19 _ (by decide) rfl (hon 7 (by decide)))
              exact ⟨_, rfl, fun K_ hK_ => q_op _ (x_move (.bool false) rfl e19) (hK_ _ _ ⟨qv_up hV (fun _ h => Option.some.inj h), hE⟩)⟩
            · have h20 : (fr l_).tmps[20]? = some (.bool false) := hv_ 8 20 _ (by decide) rfl (hon 8 (by decide))
              have e4 : evl l_ (.tmp 4) = .pointer (some ⟨g34, 0, none⟩) := evl_of ((hel 4 (by decide)).trans rfl)
              have e20 : evl l_ (.tmp 20) = .bool false := evl_of h20
              exact ⟨_, rfl, fun K_ hK_ => q_opG (wanted_on (t := 20) rfl rfl rfl h20) _ (x_field (j := 1) _ _ rfl e4 Try.underlying62 rfl (by rfl) rfl) (hK_ _ _ ⟨qv_up hV (fun _ h => Option.some.inj h), hE⟩)⟩
            · have h20 : (fr l_).tmps[20]? = some (.bool false) := hv_ 8 20 _ (by decide) rfl (hon 8 (by decide))
              have hE0 := hE
              have HS := hE0
              have e20 : evl l_ (.tmp 20) = .bool false := evl_of h20
              have e21 : evl l_ (.tmp 21) = .pointer (some ⟨g34, 1, none⟩) := evl_of (hv_ 9 21 _ (by decide) rfl (hon 9 (by decide)))
              exact ⟨_, rfl, fun K_ hK_ => q_opG (wanted_on (t := 20) rfl rfl rfl h20) _ (x_load (.int .i64 x.2) rfl e21 (bkCell (HS.get (.head _)) 1 _ rfl) (by rfl)) (hK_ _ _ ⟨qv_up hV (fun _ h => Option.some.inj h), hE⟩)⟩
            · have h20 : (fr l_).tmps[20]? = some (.bool false) := hv_ 8 20 _ (by decide) rfl (hon 8 (by decide))
              have e20 : evl l_ (.tmp 20) = .bool false := evl_of h20
              have e22 : evl l_ (.tmp 22) = .int .i64 x.2 := evl_of (hv_ 10 22 _ (by decide) rfl (hon 10 (by decide)))
              exact ⟨_, rfl, fun K_ hK_ => q_opG (wanted_on (t := 20) rfl rfl rfl h20) _ (x_cmp (k := .i64) (m := x.2) (n := 0) .lss false rfl e22 rfl (decide_eq_false h3) rfl) (hK_ _ _ ⟨qv_up hV (fun _ h => Option.some.inj h), hE⟩)⟩
            · have e20 : evl l_ (.tmp 20) = .bool false := evl_of (hv_ 8 20 _ (by decide) rfl (hon 8 (by decide)))
              have e23 : evl l_ (.tmp 23) = .bool false := evl_of (hv_ 11 23 _ (by decide) rfl (hon 11 (by decide)))
              exact ⟨_, rfl, fun K_ hK_ => q_op _ (x_pick false (.bool true) (.bool false) (.bool false) rfl e20 rfl e23 rfl) (hK_ _ _ ⟨qv_up hV (fun _ h => Option.some.inj h), hE⟩)⟩
            · have e24 : evl l_ (.tmp 24) = .bool false := evl_of (hv_ 12 24 _ (by decide) rfl (hon 12 (by decide)))
              exact ⟨_, rfl, fun K_ hK_ => q_op _ (x_move (.bool false) rfl e24) (hK_ _ _ ⟨qv_up hV (fun _ h => Option.some.inj h), hE⟩)⟩
            · have h25 : (fr l_).tmps[25]? = some (.bool false) := hv_ 13 25 _ (by decide) rfl (hon 13 (by decide))
              have e4 : evl l_ (.tmp 4) = .pointer (some ⟨g34, 0, none⟩) := evl_of ((hel 4 (by decide)).trans rfl)
              have e25 : evl l_ (.tmp 25) = .bool false := evl_of h25
              exact ⟨_, rfl, fun K_ hK_ => q_opG (wanted_on (t := 25) rfl rfl rfl h25) _ (x_field (j := 1) _ _ rfl e4 Try.underlying62 rfl (by rfl) rfl) (hK_ _ _ ⟨qv_up hV (fun _ h => Option.some.inj h), hE⟩)⟩
            · have h25 : (fr l_).tmps[25]? = some (.bool false) := hv_ 13 25 _ (by decide) rfl (hon 13 (by decide))
              have hE0 := hE
              have HS := hE0
              have e25 : evl l_ (.tmp 25) = .bool false := evl_of h25
              have e26 : evl l_ (.tmp 26) = .pointer (some ⟨g34, 1, none⟩) := evl_of (hv_ 14 26 _ (by decide) rfl (hon 14 (by decide)))
              exact ⟨_, rfl, fun K_ hK_ => q_opG (wanted_on (t := 25) rfl rfl rfl h25) _ (x_load (.int .i64 x.2) rfl e26 (bkCell (HS.get (.head _)) 1 _ rfl) (by rfl)) (hK_ _ _ ⟨qv_up hV (fun _ h => Option.some.inj h), hE⟩)⟩
            · have h25 : (fr l_).tmps[25]? = some (.bool false) := hv_ 13 25 _ (by decide) rfl (hon 13 (by decide))
              have e25 : evl l_ (.tmp 25) = .bool false := evl_of h25
              have e27 : evl l_ (.tmp 27) = .int .i64 x.2 := evl_of (hv_ 15 27 _ (by decide) rfl (hon 15 (by decide)))
              exact ⟨_, rfl, fun K_ hK_ => q_opG (wanted_on (t := 25) rfl rfl rfl h25) _ (x_cmp (k := .i64) (m := x.2) (n := 240) .geq true rfl e27 rfl (decide_eq_true h4) rfl) (hK_ _ _ ⟨qv_up hV (fun _ h => Option.some.inj h), hE⟩)⟩
            · have e25 : evl l_ (.tmp 25) = .bool false := evl_of (hv_ 13 25 _ (by decide) rfl (hon 13 (by decide)))
              have e28 : evl l_ (.tmp 28) = .bool true := evl_of (hv_ 16 28 _ (by decide) rfl (hon 16 (by decide)))
              exact ⟨_, rfl, fun K_ hK_ => q_op _ (x_pick false (.bool true) (.bool true) (.bool true) rfl e25 rfl e28 rfl) (hK_ _ _ ⟨qv_up hV (fun _ h => Option.some.inj h), hE⟩)⟩
            · have e29 : evl l_ (.tmp 29) = .bool true := evl_of (hv_ 17 29 _ (by decide) rfl (hon 17 (by decide)))
              exact ⟨_, rfl, fun K_ hK_ => q_op _ (x_move (.bool true) rfl e29) (hK_ _ _ ⟨qv_up hV (fun _ h => Option.some.inj h), hE⟩)⟩
            · have h30 : (fr l_).tmps[30]? = some (.bool true) := hv_ 18 30 _ (by decide) rfl (hon 18 (by decide))
              exact ⟨_, rfl, fun K_ hK_ => wp_offG (wanted_off (t := 30) rfl rfl rfl h30) (hK_ undef _ ⟨qv_up hV (fun _ h => Option.some.inj h), hE⟩)⟩
            · have h30 : (fr l_).tmps[30]? = some (.bool true) := hv_ 18 30 _ (by decide) rfl (hon 18 (by decide))
              exact ⟨_, rfl, fun K_ hK_ => wp_offG (wanted_off (t := 30) rfl rfl rfl h30) (hK_ undef _ ⟨qv_up hV (fun _ h => Option.some.inj h), hE⟩)⟩
            · have h30 : (fr l_).tmps[30]? = some (.bool true) := hv_ 18 30 _ (by decide) rfl (hon 18 (by decide))
              exact ⟨_, rfl, fun K_ hK_ => wp_offG (wanted_off (t := 30) rfl rfl rfl h30) (hK_ undef _ ⟨qv_up hV (fun _ h => Option.some.inj h), hE⟩)⟩
            · have h33 : (fr l_).tmps[33]? = some (undef) := hv_ 21 33 _ (by decide) rfl (hon 21 (by decide))
              exact ⟨_, rfl, fun K_ hK_ => wp_offG (wanted_undef (t := 33) rfl rfl rfl h33) (hK_ undef _ ⟨qv_up hV (fun _ h => Option.some.inj h), hE⟩)⟩
            · have h33 : (fr l_).tmps[33]? = some (undef) := hv_ 21 33 _ (by decide) rfl (hon 21 (by decide))
              exact ⟨_, rfl, fun K_ hK_ => wp_offG (wanted_undef (t := 33) rfl rfl rfl h33) (hK_ undef _ ⟨qv_up hV (fun _ h => Option.some.inj h), hE⟩)⟩
            · have h33 : (fr l_).tmps[33]? = some (undef) := hv_ 21 33 _ (by decide) rfl (hon 21 (by decide))
              exact ⟨_, rfl, fun K_ hK_ => wp_offG (wanted_undef (t := 33) rfl rfl rfl h33) (hK_ undef _ ⟨qv_up hV (fun _ h => Option.some.inj h), hE⟩)⟩
            · have h33 : (fr l_).tmps[33]? = some (undef) := hv_ 21 33 _ (by decide) rfl (hon 21 (by decide))
              exact ⟨_, rfl, fun K_ hK_ => wp_offG (wanted_undef (t := 33) rfl rfl rfl h33) (hK_ undef _ ⟨qv_up hV (fun _ h => Option.some.inj h), hE⟩)⟩
            · have h33 : (fr l_).tmps[33]? = some (undef) := hv_ 21 33 _ (by decide) rfl (hon 21 (by decide))
              exact ⟨_, rfl, fun K_ hK_ => wp_offG (wanted_undef (t := 33) rfl rfl rfl h33) (hK_ undef _ ⟨qv_up hV (fun _ h => Option.some.inj h), hE⟩)⟩
            · have h33 : (fr l_).tmps[33]? = some (undef) := hv_ 21 33 _ (by decide) rfl (hon 21 (by decide))
              exact ⟨_, rfl, fun K_ hK_ => wp_offG (wanted_undef (t := 33) rfl rfl rfl h33) (hK_ undef _ ⟨qv_up hV (fun _ h => Option.some.inj h), hE⟩)⟩
            · have h33 : (fr l_).tmps[33]? = some (undef) := hv_ 21 33 _ (by decide) rfl (hon 21 (by decide))
              exact ⟨_, rfl, fun K_ hK_ => wp_offG (wanted_undef (t := 33) rfl rfl rfl h33) (hK_ undef _ ⟨qv_up hV (fun _ h => Option.some.inj h), hE⟩)⟩
            · have h33 : (fr l_).tmps[33]? = some (undef) := hv_ 21 33 _ (by decide) rfl (hon 21 (by decide))
              exact ⟨_, rfl, fun K_ hK_ => wp_offG (wanted_undef (t := 33) rfl rfl rfl h33) (hK_ undef _ ⟨qv_up hV (fun _ h => Option.some.inj h), hE⟩)⟩
            · have h33 : (fr l_).tmps[33]? = some (undef) := hv_ 21 33 _ (by decide) rfl (hon 21 (by decide))
              exact ⟨_, rfl, fun K_ hK_ => wp_offG (wanted_undef (t := 33) rfl rfl rfl h33) (hK_ undef _ ⟨qv_up hV (fun _ h => Option.some.inj h), hE⟩)⟩
            · have h30 : (fr l_).tmps[30]? = some (.bool true) := hv_ 18 30 _ (by decide) rfl (hon 18 (by decide))
              exact ⟨_, rfl, fun K_ hK_ => wp_offG (wanted_off (t := 30) rfl rfl rfl h30) (hK_ undef _ ⟨qv_up hV (fun _ h => Option.some.inj h), hE⟩)⟩
            · have e30 : evl l_ (.tmp 30) = .bool true := evl_of (hv_ 18 30 _ (by decide) rfl (hon 18 (by decide)))
              have e43 : evl l_ (.tmp 43) = undef := evl_of (hv_ 31 43 _ (by decide) rfl (hon 31 (by decide)))
              exact ⟨_, rfl, fun K_ hK_ => q_op _ (x_pick true (.bool true) (undef) (.bool true) rfl e30 rfl e43 rfl) (hK_ _ _ ⟨qv_up hV (fun _ h => Option.some.inj h), hE⟩)⟩
          intro bq_ vq_ w_ hall hG
          obtain ⟨hV, hE⟩ := hG
          clear HS
          have HS := hE
          have hv0 := hV 0 _ rfl (hall 0 (by decide))
          have hv1 := hV 1 _ rfl (hall 1 (by decide))
          have hv2 := hV 2 _ rfl (hall 2 (by decide))
          have hv3 := hV 3 _ rfl (hall 3 (by decide))
          have hv4 := hV 4 _ rfl (hall 4 (by decide))
          have hv5 := hV 5 _ rfl (hall 5 (by decide))
          have hv6 := hV 6 _ rfl (hall 6 (by decide))
          have hv7 := hV 7 _ rfl (hall 7 (by decide))
          have hv8 := hV 8 _ rfl (hall 8 (by decide))
          have hv9 := hV 9 _ rfl (hall 9 (by decide))
          have hv10 := hV 10 _ rfl (hall 10 (by decide))
          have hv11 := hV 11 _ rfl (hall 11 (by decide))
          have hv12 := hV 12 _ rfl (hall 12 (by decide))
          have hv13 := hV 13 _ rfl (hall 13 (by decide))
          have hv14 := hV 14 _ rfl (hall 14 (by decide))
          have hv15 := hV 15 _ rfl (hall 15 (by decide))
          have hv16 := hV 16 _ rfl (hall 16 (by decide))
          have hv17 := hV 17 _ rfl (hall 17 (by decide))
          have hv18 := hV 18 _ rfl (hall 18 (by decide))
          have hv19 := hV 19 _ rfl (hall 19 (by decide))
          have hv20 := hV 20 _ rfl (hall 20 (by decide))
          have hv21 := hV 21 _ rfl (hall 21 (by decide))
          have hv22 := hV 22 _ rfl (hall 22 (by decide))
          have hv23 := hV 23 _ rfl (hall 23 (by decide))
          have hv24 := hV 24 _ rfl (hall 24 (by decide))
          have hv25 := hV 25 _ rfl (hall 25 (by decide))
          have hv26 := hV 26 _ rfl (hall 26 (by decide))
          have hv27 := hV 27 _ rfl (hall 27 (by decide))
          have hv28 := hV 28 _ rfl (hall 28 (by decide))
          have hv29 := hV 29 _ rfl (hall 29 (by decide))
          have hv30 := hV 30 _ rfl (hall 30 (by decide))
          have hv31 := hV 31 _ rfl (hall 31 (by decide))
          have hv32 := hV 32 _ rfl (hall 32 (by decide))
          clear hV hall
          rw [putSel_fr]
          simp only [tells, List.map_cons, List.map_nil, setAll, List.set_cons_succ, List.set_cons_zero, hv0, hv1, hv2, hv3, hv4, hv5, hv6, hv7, hv8, hv9, hv10, hv11, hv12, hv13, hv14, hv15, hv16, hv17, hv18, hv19, hv20, hv21, hv22, hv23, hv24, hv25, hv26, hv27, hv28, hv29, hv30, hv31, hv32]
          clear hv0 hv1 hv2 hv3 hv4 hv5 hv6 hv7 hv8 hv9 hv10 hv11 hv12 hv13 hv14 hv15 hv16 hv17 hv18 hv19 hv20 hv21 hv22 hv23 hv24 hv25 hv26 hv27 hv28 hv29 hv30 hv31 hv32
          generalize w_ = w901501 at HS ⊢
          refine fr_at (l' := (.slice (some ad) es.length c :: undef :: uq11.1 :: .int .i64 (j : Int) :: .pointer (some ⟨g34, 0, none⟩) :: .slice (some ad) es.length c :: .int .i64 (es.length : Int) :: .int .i64 (j : Int) :: .bool (decide ((j : Int) < (es.length : Int))) :: .int .i64 (j : Int) :: .pointer (some ((ad).add (j * 2))) :: .agg ([.int .i64 x.1, .int .i64 x.2] : List Value).toArray :: .pointer (some ⟨g34, 0, none⟩) :: .int .i64 x.1 :: .bool false :: .bool false :: .pointer (some ⟨g34, 0, none⟩) :: .int .i64 x.1 :: .bool false :: .bool false :: .bool false :: .pointer (some ⟨g34, 1, none⟩) :: .int .i64 x.2 :: .bool false :: .bool false :: .bool false :: .pointer (some ⟨g34, 1, none⟩) :: .int .i64 x.2 :: .bool true :: .bool true :: .bool true :: U8l1 (U4l1 (undef :: .bool true :: uq17.2.2.2.2 :: U8l1 ([]))))) rfl ?_
          refine hK39 _ _ ?_
          refine c_true rfl ?_
          refine wp_seq_k (fun K901502 hK901503 => ?_)
          refine c_region (fun ops901505 hops901504 => ?_)
          clear hops901504
          refine p_run (l' := _) _ (x_assign (.bool false) rfl rfl) rfl ?_
          refine wpList_nil ?_
          refine hK901503 _ _ ?_
          refine wp_ret ?_
          try simp only [Exit.inBlock, Exit.then]
          refine c_ret (.bool false) (r_tmp rfl rfl) ?_
          rw [rise_no hlt he]
          exact ⟨rfl, HS.belowOf⟩
        · skip
          refine free_frame (n := 33) (T := _) [0, 1, 3, 7, 15, 31, 63, 127, 255, 511, 1023, 2047, 4095, 8191, 16383, 32767, 65535, 131071, 262143, 524287, 1048575, 2097151, 4194303, 8388607, 4194303, 4194303, 37748735, 121634815, 255852543, 524287999, 1073741823, 2147483647, 4294967295] [(0, 12), (1, 13), (2, 14), (3, 15), (4, 16), (5, 17), (6, 18), (7, 19), (8, 20), (9, 21), (10, 22), (11, 23), (12, 24), (13, 25), (14, 26), (15, 27), (16, 28), (17, 29), (18, 30), (19, 31), (20, 32), (21, 33), (22, 34), (23, 35), (24, 36), (25, 37), (26, 38), (27, 39), (28, 40), (29, 41), (30, 42), (31, 43), (32, 44)] (fun bq_ vq_ w_ => qv ((fun i_ => match i_ with | 0 => some (.pointer (some ⟨g34, 0, none⟩)) | 1 => some (.int .i64 x.1) | 2 => some (.bool false) | 3 => some (.bool false) | 4 => some (.pointer (some ⟨g34, 0, none⟩)) | 5 => some (.int .i64 x.1) | 6 => some (.bool false) | 7 => some (.bool false) | 8 => some (.bool false) | 9 => some (.pointer (some ⟨g34, 1, none⟩)) | 10 => some (.int .i64 x.2) | 11 => some (.bool false) | 12 => some (.bool false) | 13 => some (.bool false) | 14 => some (.pointer (some ⟨g34, 1, none⟩)) | 15 => some (.int .i64 x.2) | 16 => some (.bool false) | 17 => some (.bool false) | 18 => some (.bool false) | 19 => some (.int .i64 (j : Int)) | 20 => some (.bool false) | 21 => some (.bool false) | 22 => some (undef) | 23 => some (undef) | 24 => some (undef) | 25 => some (undef) | 26 => some (undef) | 27 => some (undef) | 28 => some (undef) | 29 => some (undef) | 30 => some (undef) | 31 => some (.bool false) | 32 => some (.bool false) | _ => none) : Nat → Option Value) bq_ vq_ ∧ (St w (fun _ => False) w_ ([blk g34 [.int .i64 x.1, .int .i64 x.2] 62]))) (by kernel_rfl) rfl rfl (by kernel_rfl) (by kernel_rfl) rfl (by kernel_rfl) (by kernel_rfl) ⟨qv_none, HS.draw⟩ ?_ ?_
          · clear HS
            intro i_ hi_ bq_ vq_ a_ w_ hG hb_ hon hoff hfr hel hval
            obtain ⟨hV, hE⟩ := hG
            have hi_ := List.mem_range.1 hi_
            obtain ⟨l_, rfl⟩ := hfr
            have hv_ := fun (j t : Nat) (v : Value) (h1 : (j, t) ∈ [(0, 12), (1, 13), (2, 14), (3, 15), (4, 16), (5, 17), (6, 18), (7, 19), (8, 20), (9, 21), (10, 22), (11, 23), (12, 24), (13, 25), (14, 26), (15, 27), (16, 28), (17, 29), (18, 30), (19, 31), (20, 32), (21, 33), (22, 34), (23, 35), (24, 36), (25, 37), (26, 38), (27, 39), (28, 40), (29, 41), (30, 42), (31, 43), (32, 44)]) h2 h3 => (hval (j, t) h1 h3).trans (congrArg some (hV j v h2 h3))
            have hcs : i_ = 0 ∨ i_ = 1 ∨ i_ = 2 ∨ i_ = 3 ∨ i_ = 4 ∨ i_ = 5 ∨ i_ = 6 ∨ i_ = 7 ∨ i_ = 8 ∨ i_ = 9 ∨ i_ = 10 ∨ i_ = 11 ∨ i_ = 12 ∨ i_ = 13 ∨ i_ = 14 ∨ i_ = 15 ∨ i_ = 16 ∨ i_ = 17 ∨ i_ = 18 ∨ i_ = 19 ∨ i_ = 20 ∨ i_ = 21 ∨ i_ = 22 ∨ i_ = 23 ∨ i_ = 24 ∨ i_ = 25 ∨ i_ = 26 ∨ i_ = 27 ∨ i_ = 28 ∨ i_ = 29 ∨ i_ = 30 ∨ i_ = 31 ∨ i_ = 32 := by omega
            rcases hcs with rfl | rfl | rfl | rfl | rfl | rfl | rfl | rfl | rfl | rfl | rfl | rfl | rfl | rfl | rfl | rfl | rfl | rfl | rfl | rfl | rfl | rfl | rfl | rfl | rfl | rfl | rfl | rfl | rfl | rfl | rfl | rfl | rfl
            · have e4 : evl l_ (.tmp 4) = .pointer (some ⟨g34, 0, none⟩) := evl_of ((hel 4 (by decide)).trans rfl)
              exact ⟨_, rfl, fun K_ hK_ => q_op _ (x_field (j := 0) _ _ rfl e4 Try.underlying62 rfl (by rfl) rfl) (hK_ _ _ ⟨qv_up hV (fun _ h => Option.some.inj h), hE⟩)⟩
            · have hE0 := hE
              have HS := hE0
              have e12 : evl l_ (.tmp 12) = .pointer (some ⟨g34, 0, none⟩) := evl_of (hv_ 0 12 _ (by decide) rfl (hon 0 (by decide)))
              exact ⟨_, rfl, fun K_ hK_ => q_op _ (x_load (.int .i64 x.1) rfl e12 (bkCell (HS.get (.head _)) 0 _ rfl) (by rfl)) (hK_ _ _ ⟨qv_up hV (fun _ h => Option.some.inj h), hE⟩)⟩
            · have e13 : evl l_ (.tmp 13) = .int .i64 x.1 := evl_of (hv_ 1 13 _ (by decide) rfl (hon 1 (by decide)))
              exact ⟨_, rfl, fun K_ hK_ => q_op _ (x_cmp (k := .i64) (m := x.1) (n := 0) .lss false rfl e13 rfl (decide_eq_false h1) rfl) (hK_ _ _ ⟨qv_up hV (fun _ h => Option.some.inj h), hE⟩)⟩
            · have e14 : evl l_ (.tmp 14) = .bool false := evl_of (hv_ 2 14 _ (by decide) rfl (hon 2 (by decide)))
              exact ⟨_, rfl, fun K_ hK_ => q_op _ (x_move (.bool false) rfl e14) (hK_ _ _ ⟨qv_up hV (fun _ h => Option.some.inj h), hE⟩)⟩
            · have h15 : (fr l_).tmps[15]? = some (.bool false) := hv_ 3 15 _ (by decide) rfl (hon 3 (by decide))
              have e4 : evl l_ (.tmp 4) = .pointer (some ⟨g34, 0, none⟩) := evl_of ((hel 4 (by decide)).trans rfl)
              have e15 : evl l_ (.tmp 15) = .bool false := evl_of h15
              exact ⟨_, rfl, fun K_ hK_ => q_opG (wanted_on (t := 15) rfl rfl rfl h15) _ (x_field (j := 0) _ _ rfl e4 Try.underlying62 rfl (by rfl) rfl) (hK_ _ _ ⟨qv_up hV (fun _ h => Option.some.inj h), hE⟩)⟩
            · have h15 : (fr l_).tmps[15]? = some (.bool false) := hv_ 3 15 _ (by decide) rfl (hon 3 (by decide))
              have hE0 := hE
              have HS := hE0
              have e15 : evl l_ (.tmp 15) = .bool false := evl_of h15
              have e16 : evl l_ (.tmp 16) = .pointer (some ⟨g34, 0, none⟩) := evl_of (hv_ 4 16 _ (by decide) rfl (hon 4 (by decide)))
              exact ⟨_, rfl, fun K_ hK_ => q_opG (wanted_on (t := 15) rfl rfl rfl h15) _ (x_load (.int .i64 x.1) rfl e16 (bkCell (HS.get (.head _)) 0 _ rfl) (by rfl)) (hK_ _ _ ⟨qv_up hV (fun _ h => Option.some.inj h), hE⟩)⟩
            · have h15 : (fr l_).tmps[15]? = some (.bool false) := hv_ 3 15 _ (by decide) rfl (hon 3 (by decide))
              have e15 : evl l_ (.tmp 15) = .bool false := evl_of h15
              have e17 : evl l_ (.tmp 17) = .int .i64 x.1 := evl_of (hv_ 5 17 _ (by decide) rfl (hon 5 (by decide)))
              exact ⟨_, rfl, fun K_ hK_ => q_opG (wanted_on (t := 15) rfl rfl rfl h15) _ (x_cmp (k := .i64) (m := x.1) (n := 64) .geq false rfl e17 rfl (decide_eq_false h2) rfl) (hK_ _ _ ⟨qv_up hV (fun _ h => Option.some.inj h), hE⟩)⟩
            · have e15 : evl l_ (.tmp 15) = .bool false := evl_of (hv_ 3 15 _ (by decide) rfl (hon 3 (by decide)))
              have e18 : evl l_ (.tmp 18) = .bool false := evl_of (hv_ 6 18 _ (by decide) rfl (hon 6 (by decide)))
              exact ⟨_, rfl, fun K_ hK_ => q_op _ (x_pick false (.bool true) (.bool false) (.bool false) rfl e15 rfl e18 rfl) (hK_ _ _ ⟨qv_up hV (fun _ h => Option.some.inj h), hE⟩)⟩
            · have e19 : evl l_ (.tmp 19) = .bool false := evl_of (hv_ 7 19 _ (by decide) rfl (hon 7 (by decide)))
              exact ⟨_, rfl, fun K_ hK_ => q_op _ (x_move (.bool false) rfl e19) (hK_ _ _ ⟨qv_up hV (fun _ h => Option.some.inj h), hE⟩)⟩
            · have h20 : (fr l_).tmps[20]? = some (.bool false) := hv_ 8 20 _ (by decide) rfl (hon 8 (by decide))
              have e4 : evl l_ (.tmp 4) = .pointer (some ⟨g34, 0, none⟩) := evl_of ((hel 4 (by decide)).trans rfl)
              have e20 : evl l_ (.tmp 20) = .bool false := evl_of h20
              exact ⟨_, rfl, fun K_ hK_ => q_opG (wanted_on (t := 20) rfl rfl rfl h20) _ (x_field (j := 1) _ _ rfl e4 Try.underlying62 rfl (by rfl) rfl) (hK_ _ _ ⟨qv_up hV (fun _ h => Option.some.inj h), hE⟩)⟩
            · have h20 : (fr l_).tmps[20]? = some (.bool false) := hv_ 8 20 _ (by decide) rfl (hon 8 (by decide))
              have hE0 := hE
              have HS := hE0
              have e20 : evl l_ (.tmp 20) = .bool false := evl_of h20
              have e21 : evl l_ (.tmp 21) = .pointer (some ⟨g34, 1, none⟩) := evl_of (hv_ 9 21 _ (by decide) rfl (hon 9 (by decide)))
              exact ⟨_, rfl, fun K_ hK_ => q_opG (wanted_on (t := 20) rfl rfl rfl h20) _ (x_load (.int .i64 x.2) rfl e21 (bkCell (HS.get (.head _)) 1 _ rfl) (by rfl)) (hK_ _ _ ⟨qv_up hV (fun _ h => Option.some.inj h), hE⟩)⟩
            · have h20 : (fr l_).tmps[20]? = some (.bool false) := hv_ 8 20 _ (by decide) rfl (hon 8 (by decide))
              have e20 : evl l_ (.tmp 20) = .bool false := evl_of h20
              have e22 : evl l_ (.tmp 22) = .int .i64 x.2 := evl_of (hv_ 10 22 _ (by decide) rfl (hon 10 (by decide)))
              exact ⟨_, rfl, fun K_ hK_ => q_opG (wanted_on (t := 20) rfl rfl rfl h20) _ (x_cmp (k := .i64) (m := x.2) (n := 0) .lss false rfl e22 rfl (decide_eq_false h3) rfl) (hK_ _ _ ⟨qv_up hV (fun _ h => Option.some.inj h), hE⟩)⟩
            · have e20 : evl l_ (.tmp 20) = .bool false := evl_of (hv_ 8 20 _ (by decide) rfl (hon 8 (by decide)))
              have e23 : evl l_ (.tmp 23) = .bool false := evl_of (hv_ 11 23 _ (by decide) rfl (hon 11 (by decide)))
              exact ⟨_, rfl, fun K_ hK_ => q_op _ (x_pick false (.bool true) (.bool false) (.bool false) rfl e20 rfl e23 rfl) (hK_ _ _ ⟨qv_up hV (fun _ h => Option.some.inj h), hE⟩)⟩
            · have e24 : evl l_ (.tmp 24) = .bool false := evl_of (hv_ 12 24 _ (by decide) rfl (hon 12 (by decide)))
              exact ⟨_, rfl, fun K_ hK_ => q_op _ (x_move (.bool false) rfl e24) (hK_ _ _ ⟨qv_up hV (fun _ h => Option.some.inj h), hE⟩)⟩
            · have h25 : (fr l_).tmps[25]? = some (.bool false) := hv_ 13 25 _ (by decide) rfl (hon 13 (by decide))
              have e4 : evl l_ (.tmp 4) = .pointer (some ⟨g34, 0, none⟩) := evl_of ((hel 4 (by decide)).trans rfl)
              have e25 : evl l_ (.tmp 25) = .bool false := evl_of h25
              exact ⟨_, rfl, fun K_ hK_ => q_opG (wanted_on (t := 25) rfl rfl rfl h25) _ (x_field (j := 1) _ _ rfl e4 Try.underlying62 rfl (by rfl) rfl) (hK_ _ _ ⟨qv_up hV (fun _ h => Option.some.inj h), hE⟩)⟩
            · have h25 : (fr l_).tmps[25]? = some (.bool false) := hv_ 13 25 _ (by decide) rfl (hon 13 (by decide))
              have hE0 := hE
              have HS := hE0
              have e25 : evl l_ (.tmp 25) = .bool false := evl_of h25
              have e26 : evl l_ (.tmp 26) = .pointer (some ⟨g34, 1, none⟩) := evl_of (hv_ 14 26 _ (by decide) rfl (hon 14 (by decide)))
              exact ⟨_, rfl, fun K_ hK_ => q_opG (wanted_on (t := 25) rfl rfl rfl h25) _ (x_load (.int .i64 x.2) rfl e26 (bkCell (HS.get (.head _)) 1 _ rfl) (by rfl)) (hK_ _ _ ⟨qv_up hV (fun _ h => Option.some.inj h), hE⟩)⟩
            · have h25 : (fr l_).tmps[25]? = some (.bool false) := hv_ 13 25 _ (by decide) rfl (hon 13 (by decide))
              have e25 : evl l_ (.tmp 25) = .bool false := evl_of h25
              have e27 : evl l_ (.tmp 27) = .int .i64 x.2 := evl_of (hv_ 15 27 _ (by decide) rfl (hon 15 (by decide)))
              exact ⟨_, rfl, fun K_ hK_ => q_opG (wanted_on (t := 25) rfl rfl rfl h25) _ (x_cmp (k := .i64) (m := x.2) (n := 240) .geq false rfl e27 rfl (decide_eq_false h4) rfl) (hK_ _ _ ⟨qv_up hV (fun _ h => Option.some.inj h), hE⟩)⟩
            · have e25 : evl l_ (.tmp 25) = .bool false := evl_of (hv_ 13 25 _ (by decide) rfl (hon 13 (by decide)))
              have e28 : evl l_ (.tmp 28) = .bool false := evl_of (hv_ 16 28 _ (by decide) rfl (hon 16 (by decide)))
              exact ⟨_, rfl, fun K_ hK_ => q_op _ (x_pick false (.bool true) (.bool false) (.bool false) rfl e25 rfl e28 rfl) (hK_ _ _ ⟨qv_up hV (fun _ h => Option.some.inj h), hE⟩)⟩
            · have e29 : evl l_ (.tmp 29) = .bool false := evl_of (hv_ 17 29 _ (by decide) rfl (hon 17 (by decide)))
              exact ⟨_, rfl, fun K_ hK_ => q_op _ (x_move (.bool false) rfl e29) (hK_ _ _ ⟨qv_up hV (fun _ h => Option.some.inj h), hE⟩)⟩
            · have h30 : (fr l_).tmps[30]? = some (.bool false) := hv_ 18 30 _ (by decide) rfl (hon 18 (by decide))
              have e3 : evl l_ (.tmp 3) = .int .i64 (j : Int) := evl_of ((hel 3 (by decide)).trans rfl)
              have e30 : evl l_ (.tmp 30) = .bool false := evl_of h30
              exact ⟨_, rfl, fun K_ hK_ => q_opG (wanted_on (t := 30) rfl rfl rfl h30) _ (x_move (.int .i64 (j : Int)) rfl e3) (hK_ _ _ ⟨qv_up hV (fun _ h => Option.some.inj h), hE⟩)⟩
            · have h30 : (fr l_).tmps[30]? = some (.bool false) := hv_ 18 30 _ (by decide) rfl (hon 18 (by decide))
              have e30 : evl l_ (.tmp 30) = .bool false := evl_of h30
              have e31 : evl l_ (.tmp 31) = .int .i64 (j : Int) := evl_of (hv_ 19 31 _ (by decide) rfl (hon 19 (by decide)))
              exact ⟨_, rfl, fun K_ hK_ => q_opG (wanted_on (t := 30) rfl rfl rfl h30) _ (x_cmp (k := .i64) (m := (j : Int)) (n := 0) .gtr false rfl e31 rfl (decide_eq_false (by omega)) rfl) (hK_ _ _ ⟨qv_up hV (fun _ h => Option.some.inj h), hE⟩)⟩
            · have h30 : (fr l_).tmps[30]? = some (.bool false) := hv_ 18 30 _ (by decide) rfl (hon 18 (by decide))
              have e30 : evl l_ (.tmp 30) = .bool false := evl_of h30
              have e32 : evl l_ (.tmp 32) = .bool false := evl_of (hv_ 20 32 _ (by decide) rfl (hon 20 (by decide)))
              exact ⟨_, rfl, fun K_ hK_ => q_opG (wanted_on (t := 30) rfl rfl rfl h30) _ (x_move (.bool false) rfl e32) (hK_ _ _ ⟨qv_up hV (fun _ h => Option.some.inj h), hE⟩)⟩
            · have h33 : (fr l_).tmps[33]? = some (.bool false) := hv_ 21 33 _ (by decide) rfl (hon 21 (by decide))
              exact ⟨_, rfl, fun K_ hK_ => wp_offG (wanted_off (t := 33) rfl rfl rfl h33) (hK_ undef _ ⟨qv_up hV (fun _ h => Option.some.inj h), hE⟩)⟩
            · have h33 : (fr l_).tmps[33]? = some (.bool false) := hv_ 21 33 _ (by decide) rfl (hon 21 (by decide))
              exact ⟨_, rfl, fun K_ hK_ => wp_offG (wanted_off (t := 33) rfl rfl rfl h33) (hK_ undef _ ⟨qv_up hV (fun _ h => Option.some.inj h), hE⟩)⟩
            · have h33 : (fr l_).tmps[33]? = some (.bool false) := hv_ 21 33 _ (by decide) rfl (hon 21 (by decide))
              exact ⟨_, rfl, fun K_ hK_ => wp_offG (wanted_off (t := 33) rfl rfl rfl h33) (hK_ undef _ ⟨qv_up hV (fun _ h => Option.some.inj h), hE⟩)⟩
            · have h33 : (fr l_).tmps[33]? = some (.bool false) := hv_ 21 33 _ (by decide) rfl (hon 21 (by decide))
              exact ⟨_, rfl, fun K_ hK_ => wp_offG (wanted_off (t := 33) rfl rfl rfl h33) (hK_ undef _ ⟨qv_up hV (fun _ h => Option.some.inj h), hE⟩)⟩
            · have h33 : (fr l_).tmps[33]? = some (.bool false) := hv_ 21 33 _ (by decide) rfl (hon 21 (by decide))
              exact ⟨_, rfl, fun K_ hK_ => wp_offG (wanted_off (t := 33) rfl rfl rfl h33) (hK_ undef _ ⟨qv_up hV (fun _ h => Option.some.inj h), hE⟩)⟩
            · have h33 : (fr l_).tmps[33]? = some (.bool false) := hv_ 21 33 _ (by decide) rfl (hon 21 (by decide))
              exact ⟨_, rfl, fun K_ hK_ => wp_offG (wanted_off (t := 33) rfl rfl rfl h33) (hK_ undef _ ⟨qv_up hV (fun _ h => Option.some.inj h), hE⟩)⟩
            · have h33 : (fr l_).tmps[33]? = some (.bool false) := hv_ 21 33 _ (by decide) rfl (hon 21 (by decide))
              exact ⟨_, rfl, fun K_ hK_ => wp_offG (wanted_off (t := 33) rfl rfl rfl h33) (hK_ undef _ ⟨qv_up hV (fun _ h => Option.some.inj h), hE⟩)⟩
            · have h33 : (fr l_).tmps[33]? = some (.bool false) := hv_ 21 33 _ (by decide) rfl (hon 21 (by decide))
              exact ⟨_, rfl, fun K_ hK_ => wp_offG (wanted_off (t := 33) rfl rfl rfl h33) (hK_ undef _ ⟨qv_up hV (fun _ h => Option.some.inj h), hE⟩)⟩
            · have h33 : (fr l_).tmps[33]? = some (.bool false) := hv_ 21 33 _ (by decide) rfl (hon 21 (by decide))
              exact ⟨_, rfl, fun K_ hK_ => wp_offG (wanted_off (t := 33) rfl rfl rfl h33) (hK_ undef _ ⟨qv_up hV (fun _ h => Option.some.inj h), hE⟩)⟩
            · have h30 : (fr l_).tmps[30]? = some (.bool false) := hv_ 18 30 _ (by decide) rfl (hon 18 (by decide))
              have e30 : evl l_ (.tmp 30) = .bool false := evl_of h30
              have e33 : evl l_ (.tmp 33) = .bool false := evl_of (hv_ 21 33 _ (by decide) rfl (hon 21 (by decide)))
              have e42 : evl l_ (.tmp 42) = undef := evl_of (hv_ 30 42 _ (by decide) rfl (hon 30 (by decide)))
              exact ⟨_, rfl, fun K_ hK_ => q_opG (wanted_on (t := 30) rfl rfl rfl h30) _ (x_pick false (undef) (.bool false) (.bool false) rfl e33 e42 rfl rfl) (hK_ _ _ ⟨qv_up hV (fun _ h => Option.some.inj h), hE⟩)⟩
            · have e30 : evl l_ (.tmp 30) = .bool false := evl_of (hv_ 18 30 _ (by decide) rfl (hon 18 (by decide)))
              have e43 : evl l_ (.tmp 43) = .bool false := evl_of (hv_ 31 43 _ (by decide) rfl (hon 31 (by decide)))
              exact ⟨_, rfl, fun K_ hK_ => q_op _ (x_pick false (.bool true) (.bool false) (.bool false) rfl e30 rfl e43 rfl) (hK_ _ _ ⟨qv_up hV (fun _ h => Option.some.inj h), hE⟩)⟩
          intro bq_ vq_ w_ hall hG
          obtain ⟨hV, hE⟩ := hG
          clear HS
          have HS := hE
          have hv0 := hV 0 _ rfl (hall 0 (by decide))
          have hv1 := hV 1 _ rfl (hall 1 (by decide))
          have hv2 := hV 2 _ rfl (hall 2 (by decide))
          have hv3 := hV 3 _ rfl (hall 3 (by decide))
          have hv4 := hV 4 _ rfl (hall 4 (by decide))
          have hv5 := hV 5 _ rfl (hall 5 (by decide))
          have hv6 := hV 6 _ rfl (hall 6 (by decide))
          have hv7 := hV 7 _ rfl (hall 7 (by decide))
          have hv8 := hV 8 _ rfl (hall 8 (by decide))
          have hv9 := hV 9 _ rfl (hall 9 (by decide))
          have hv10 := hV 10 _ rfl (hall 10 (by decide))
          have hv11 := hV 11 _ rfl (hall 11 (by decide))
          have hv12 := hV 12 _ rfl (hall 12 (by decide))
          have hv13 := hV 13 _ rfl (hall 13 (by decide))
          have hv14 := hV 14 _ rfl (hall 14 (by decide))
          have hv15 := hV 15 _ rfl (hall 15 (by decide))
          have hv16 := hV 16 _ rfl (hall 16 (by decide))
          have hv17 := hV 17 _ rfl (hall 17 (by decide))
          have hv18 := hV 18 _ rfl (hall 18 (by decide))
          have hv19 := hV 19 _ rfl (hall 19 (by decide))
          have hv20 := hV 20 _ rfl (hall 20 (by decide))
          have hv21 := hV 21 _ rfl (hall 21 (by decide))
          have hv22 := hV 22 _ rfl (hall 22 (by decide))
          have hv23 := hV 23 _ rfl (hall 23 (by decide))
          have hv24 := hV 24 _ rfl (hall 24 (by decide))
          have hv25 := hV 25 _ rfl (hall 25 (by decide))
          have hv26 := hV 26 _ rfl (hall 26 (by decide))
          have hv27 := hV 27 _ rfl (hall 27 (by decide))
          have hv28 := hV 28 _ rfl (hall 28 (by decide))
          have hv29 := hV 29 _ rfl (hall 29 (by decide))
          have hv30 := hV 30 _ rfl (hall 30 (by decide))
          have hv31 := hV 31 _ rfl (hall 31 (by decide))
          have hv32 := hV 32 _ rfl (hall 32 (by decide))
          clear hV hall
          rw [putSel_fr]
          simp only [tells, List.map_cons, List.map_nil, setAll, List.set_cons_succ, List.set_cons_zero, hv0, hv1, hv2, hv3, hv4, hv5, hv6, hv7, hv8, hv9, hv10, hv11, hv12, hv13, hv14, hv15, hv16, hv17, hv18, hv19, hv20, hv21, hv22, hv23, hv24, hv25, hv26, hv27, hv28, hv29, hv30, hv31, hv32]
          clear hv0 hv1 hv2 hv3 hv4 hv5 hv6 hv7 hv8 hv9 hv10 hv11 hv12 hv13 hv14 hv15 hv16 hv17 hv18 hv19 hv20 hv21 hv22 hv23 hv24 hv25 hv26 hv27 hv28 hv29 hv30 hv31 hv32
          generalize w_ = w901501 at HS ⊢
          refine fr_at (l' := (.slice (some ad) es.length c :: undef :: uq11.1 :: .int .i64 (j : Int) :: .pointer (some ⟨g34, 0, none⟩) :: .slice (some ad) es.length c :: .int .i64 (es.length : Int) :: .int .i64 (j : Int) :: .bool (decide ((j : Int) < (es.length : Int))) :: .int .i64 (j : Int) :: .pointer (some ((ad).add (j * 2))) :: .agg ([.int .i64 x.1, .int .i64 x.2] : List Value).toArray :: .pointer (some ⟨g34, 0, none⟩) :: .int .i64 x.1 :: .bool false :: .bool false :: .pointer (some ⟨g34, 0, none⟩) :: .int .i64 x.1 :: .bool false :: .bool false :: .bool false :: .pointer (some ⟨g34, 1, none⟩) :: .int .i64 x.2 :: .bool false :: .bool false :: .bool false :: .pointer (some ⟨g34, 1, none⟩) :: .int .i64 x.2 :: .bool false :: .bool false :: .bool false :: .int .i64 (j : Int) :: .bool false :: .bool false :: U8l1 (undef :: .bool false :: .bool false :: uq17.2.2.2.2 :: U8l1 ([])))) rfl ?_
          refine hK39 _ _ ?_
          refine c_false rfl ?_
          refine wp_skip ?_
          refine hK29 _ _ ?_
          refine c_region (fun ops901503 hops901502 => ?_)
          clear hops901502
          refine p_run (l' := _) _ (x_arith (k := .i64) (m := (j : Int)) (n := 1) .add (((j + 1 : Nat) : Int)) rfl rfl rfl (show IntKind.i64.wrap ((j : Int) + 1) = ((j + 1 : Nat) : Int) from ((wr64' (by omega)).trans (by omega))) rfl) rfl ?_
          refine p_run (l' := _) _ (x_move (.int .i64 ((j + 1 : Nat) : Int)) rfl rfl) rfl ?_
          refine wpList_nil ?_
          refine fr_at (l' := (.slice (some ad) es.length c :: undef :: uq11.1 :: .int .i64 (j : Int) :: .pointer (some ⟨g34, 0, none⟩) :: .slice (some ad) es.length c :: .int .i64 (es.length : Int) :: .int .i64 ((j + 1 : Nat) : Int) :: .bool (decide ((j : Int) < (es.length : Int))) :: .int .i64 (j : Int) :: .pointer (some ((ad).add (j * 2))) :: .agg ([.int .i64 x.1, .int .i64 x.2] : List Value).toArray :: .pointer (some ⟨g34, 0, none⟩) :: .int .i64 x.1 :: .bool false :: .bool false :: .pointer (some ⟨g34, 0, none⟩) :: .int .i64 x.1 :: .bool false :: .bool false :: .bool false :: .pointer (some ⟨g34, 1, none⟩) :: .int .i64 x.2 :: .bool false :: .bool false :: .bool false :: .pointer (some ⟨g34, 1, none⟩) :: .int .i64 x.2 :: .bool false :: .bool false :: .bool false :: .int .i64 (j : Int) :: .bool false :: .bool false :: U8l1 (undef :: .bool false :: .bool false :: .int .i64 ((j + 1 : Nat) : Int) :: U8l1 ([])))) rfl ?_
          refine hJ19 (j + 1) _ _ ?_ ?_
          · show es.length - (j + 1) < es.length - j; omega
          · exact ⟨(uq11.1, .int .i64 (j : Int), .pointer (some ⟨g34, 0, none⟩), .bool (decide ((j : Int) < (es.length : Int))), .int .i64 (j : Int), .pointer (some ((ad).add (j * 2)))), (.agg ([.int .i64 x.1, .int .i64 x.2] : List Value).toArray, .pointer (some ⟨g34, 0, none⟩), .int .i64 x.1, .bool false, .bool false, .pointer (some ⟨g34, 0, none⟩)), (.int .i64 x.1, .bool false, .bool false, .bool false, .pointer (some ⟨g34, 1, none⟩), .int .i64 x.2), (.bool false, .bool false, .bool false, .pointer (some ⟨g34, 1, none⟩), .int .i64 x.2, .bool false), (.bool false, .bool false, .int .i64 (j : Int), .bool false, .bool false, undef), (undef, undef, undef, undef, undef, undef), (undef, undef, .bool false, .bool false, .int .i64 ((j + 1 : Nat) : Int)), rfl, HS.drop, ⟨(by omega), (by rw [riseK_snoc, hI.2, he]; rfl)⟩⟩
        · skip
          refine free_frame (n := 33) (T := _) [0, 1, 3, 7, 15, 31, 63, 127, 255, 511, 1023, 2047, 4095, 8191, 16383, 32767, 65535, 131071, 262143, 524287, 1048575, 2097151, 4194303, 8388607, 4194303, 4194303, 37748735, 121634815, 255852543, 524287999, 1073741823, 2147483647, 4294967295] [(0, 12), (1, 13), (2, 14), (3, 15), (4, 16), (5, 17), (6, 18), (7, 19), (8, 20), (9, 21), (10, 22), (11, 23), (12, 24), (13, 25), (14, 26), (15, 27), (16, 28), (17, 29), (18, 30), (19, 31), (20, 32), (21, 33), (22, 34), (23, 35), (24, 36), (25, 37), (26, 38), (27, 39), (28, 40), (29, 41), (30, 42), (31, 43), (32, 44)] (fun bq_ vq_ w_ => qv ((fun i_ => match i_ with | 0 => some (.pointer (some ⟨g34, 0, none⟩)) | 1 => some (.int .i64 x.1) | 2 => some (.bool false) | 3 => some (.bool false) | 4 => some (.pointer (some ⟨g34, 0, none⟩)) | 5 => some (.int .i64 x.1) | 6 => some (.bool false) | 7 => some (.bool false) | 8 => some (.bool false) | 9 => some (.pointer (some ⟨g34, 1, none⟩)) | 10 => some (.int .i64 x.2) | 11 => some (.bool false) | 12 => some (.bool false) | 13 => some (.bool false) | 14 => some (.pointer (some ⟨g34, 1, none⟩)) | 15 => some (.int .i64 x.2) | 16 => some (.bool false) | 17 => some (.bool false) | 18 => some (.bool false) | 19 => some (.int .i64 (j : Int)) | 20 => some (.bool true) | 21 => some (.bool true) | 22 => some (.pointer (some ⟨g34, 0, none⟩)) | 23 => some (.int .i64 x.1) | 24 => some (.slice (some ad) es.length c) | 25 => some (.int .i64 (j : Int)) | 26 => some (.int .i64 ((j - 1 : Nat) : Int)) | 27 => some (.pointer (some ((ad).add ((j - 1 : Nat) * 2)))) | 28 => some (.pointer (some (((ad).add ((j - 1 : Nat) * 2)).add 0))) | 29 => some (.int .i64 ((es.getD (j - 1) (0, 0)).1)) | 30 => some (.bool false) | 31 => some (.bool false) | 32 => some (.bool false) | _ => none) : Nat → Option Value) bq_ vq_ ∧ (St w (fun _ => False) w_ ([blk g34 [.int .i64 x.1, .int .i64 x.2] 62]))) (by kernel_rfl) rfl rfl (by kernel_rfl) (by kernel_rfl) rfl (by kernel_rfl) (by kernel_rfl) ⟨qv_none, HS.draw⟩ ?_ ?_
          · clear HS
            intro i_ hi_ bq_ vq_ a_ w_ hG hb_ hon hoff hfr hel hval
            obtain ⟨hV, hE⟩ := hG
            have hi_ := List.mem_range.1 hi_
            obtain ⟨l_, rfl⟩ := hfr
            have hv_ := fun (j t : Nat) (v : Value) (h1 : (j, t) ∈ [(0, 12), (1, 13), (2, 14), (3, 15), (4, 16), (5, 17), (6, 18), (7, 19), (8, 20), (9, 21), (10, 22), (11, 23), (12, 24), (13, 25), (14, 26), (15, 27), (16, 28), (17, 29), (18, 30), (19, 31), (20, 32), (21, 33), (22, 34), (23, 35), (24, 36), (25, 37), (26, 38), (27, 39), (28, 40), (29, 41), (30, 42), (31, 43), (32, 44)]) h2 h3 => (hval (j, t) h1 h3).trans (congrArg some (hV j v h2 h3))
            have hcs : i_ = 0 ∨ i_ = 1 ∨ i_ = 2 ∨ i_ = 3 ∨ i_ = 4 ∨ i_ = 5 ∨ i_ = 6 ∨ i_ = 7 ∨ i_ = 8 ∨ i_ = 9 ∨ i_ = 10 ∨ i_ = 11 ∨ i_ = 12 ∨ i_ = 13 ∨ i_ = 14 ∨ i_ = 15 ∨ i_ = 16 ∨ i_ = 17 ∨ i_ = 18 ∨ i_ = 19 ∨ i_ = 20 ∨ i_ = 21 ∨ i_ = 22 ∨ i_ = 23 ∨ i_ = 24 ∨ i_ = 25 ∨ i_ = 26 ∨ i_ = 27 ∨ i_ = 28 ∨ i_ = 29 ∨ i_ = 30 ∨ i_ = 31 ∨ i_ = 32 := by omega
            rcases hcs with rfl | rfl | rfl | rfl | rfl | rfl | rfl | rfl | rfl | rfl | rfl | rfl | rfl | rfl | rfl | rfl | rfl | rfl | rfl | rfl | rfl | rfl | rfl | rfl | rfl | rfl | rfl | rfl | rfl | rfl | rfl | rfl | rfl
            · have e4 : evl l_ (.tmp 4) = .pointer (some ⟨g34, 0, none⟩) := evl_of ((hel 4 (by decide)).trans rfl)
              exact ⟨_, rfl, fun K_ hK_ => q_op _ (x_field (j := 0) _ _ rfl e4 Try.underlying62 rfl (by rfl) rfl) (hK_ _ _ ⟨qv_up hV (fun _ h => Option.some.inj h), hE⟩)⟩
            · have hE0 := hE
              have HS := hE0
              have e12 : evl l_ (.tmp 12) = .pointer (some ⟨g34, 0, none⟩) := evl_of (hv_ 0 12 _ (by decide) rfl (hon 0 (by decide)))
              exact ⟨_, rfl, fun K_ hK_ => q_op _ (x_load (.int .i64 x.1) rfl e12 (bkCell (HS.get (.head _)) 0 _ rfl) (by rfl)) (hK_ _ _ ⟨qv_up hV (fun _ h => Option.some.inj h), hE⟩)⟩
            · have e13 : evl l_ (.tmp 13) = .int .i64 x.1 := evl_of (hv_ 1 13 _ (by decide) rfl (hon 1 (by decide)))
              exact ⟨_, rfl, fun K_ hK_ => q_op _ (x_cmp (k := .i64) (m := x.1) (n := 0) .lss false rfl e13 rfl (decide_eq_false h1) rfl) (hK_ _ _ ⟨qv_up hV (fun _ h => Option.some.inj h), hE⟩)⟩
            · have e14 : evl l_ (.tmp 14) = .bool false := evl_of (hv_ 2 14 _ (by decide) rfl (hon 2 (by decide)))
              exact ⟨_, rfl, fun K_ hK_ => q_op _ (x_move (.bool false) rfl e14) (hK_ _ _ ⟨qv_up hV (fun _ h => Option.some.inj h), hE⟩)⟩
            · have h15 : (fr l_).tmps[15]? = some (.bool false) := hv_ 3 15 _ (by decide) rfl (hon 3 (by decide))
              have e4 : evl l_ (.tmp 4) = .pointer (some ⟨g34, 0, none⟩) := evl_of ((hel 4 (by decide)).trans rfl)
              have e15 : evl l_ (.tmp 15) = .bool false := evl_of h15
              exact ⟨_, rfl, fun K_ hK_ => q_opG (wanted_on (t := 15) rfl rfl rfl h15) _ (x_field (j := 0) _ _ rfl e4 Try.underlying62 rfl (by rfl) rfl) (hK_ _ _ ⟨qv_up hV (fun _ h => Option.some.inj h), hE⟩)⟩
            · have h15 : (fr l_).tmps[15]? = some (.bool false) := hv_ 3 15 _ (by decide) rfl (hon 3 (by decide))
              have hE0 := hE
              have HS := hE0
              have e15 : evl l_ (.tmp 15) = .bool false := evl_of h15
              have e16 : evl l_ (.tmp 16) = .pointer (some ⟨g34, 0, none⟩) := evl_of (hv_ 4 16 _ (by decide) rfl (hon 4 (by decide)))
              exact ⟨_, rfl, fun K_ hK_ => q_opG (wanted_on (t := 15) rfl rfl rfl h15) _ (x_load (.int .i64 x.1) rfl e16 (bkCell (HS.get (.head _)) 0 _ rfl) (by rfl)) (hK_ _ _ ⟨qv_up hV (fun _ h => Option.some.inj h), hE⟩)⟩
            · have h15 : (fr l_).tmps[15]? = some (.bool false) := hv_ 3 15 _ (by decide) rfl (hon 3 (by decide))
              have e15 : evl l_ (.tmp 15) = .bool false := evl_of h15
              have e17 : evl l_ (.tmp 17) = .int .i64 x.1 := evl_of (hv_ 5 17 _ (by decide) rfl (hon 5 (by decide)))
              exact ⟨_, rfl, fun K_ hK_ => q_opG (wanted_on (t := 15) rfl rfl rfl h15) _ (x_cmp (k := .i64) (m := x.1) (n := 64) .geq false rfl e17 rfl (decide_eq_false h2) rfl) (hK_ _ _ ⟨qv_up hV (fun _ h => Option.some.inj h), hE⟩)⟩
            · have e15 : evl l_ (.tmp 15) = .bool false := evl_of (hv_ 3 15 _ (by decide) rfl (hon 3 (by decide)))
              have e18 : evl l_ (.tmp 18) = .bool false := evl_of (hv_ 6 18 _ (by decide) rfl (hon 6 (by decide)))
              exact ⟨_, rfl, fun K_ hK_ => q_op _ (x_pick false (.bool true) (.bool false) (.bool false) rfl e15 rfl e18 rfl) (hK_ _ _ ⟨qv_up hV (fun _ h => Option.some.inj h), hE⟩)⟩
            · have e19 : evl l_ (.tmp 19) = .bool false := evl_of (hv_ 7 19 _ (by decide) rfl (hon 7 (by decide)))
              exact ⟨_, rfl, fun K_ hK_ => q_op _ (x_move (.bool false) rfl e19) (hK_ _ _ ⟨qv_up hV (fun _ h => Option.some.inj h), hE⟩)⟩
            · have h20 : (fr l_).tmps[20]? = some (.bool false) := hv_ 8 20 _ (by decide) rfl (hon 8 (by decide))
              have e4 : evl l_ (.tmp 4) = .pointer (some ⟨g34, 0, none⟩) := evl_of ((hel 4 (by decide)).trans rfl)
              have e20 : evl l_ (.tmp 20) = .bool false := evl_of h20
              exact ⟨_, rfl, fun K_ hK_ => q_opG (wanted_on (t := 20) rfl rfl rfl h20) _ (x_field (j := 1) _ _ rfl e4 Try.underlying62 rfl (by rfl) rfl) (hK_ _ _ ⟨qv_up hV (fun _ h => Option.some.inj h), hE⟩)⟩
            · have h20 : (fr l_).tmps[20]? = some (.bool false) := hv_ 8 20 _ (by decide) rfl (hon 8 (by decide))
              have hE0 := hE
              have HS := hE0
              have e20 : evl l_ (.tmp 20) = .bool false := evl_of h20
              have e21 : evl l_ (.tmp 21) = .pointer (some ⟨g34, 1, none⟩) := evl_of (hv_ 9 21 _ (by decide) rfl (hon 9 (by decide)))
              exact ⟨_, rfl, fun K_ hK_ => q_opG (wanted_on (t := 20) rfl rfl rfl h20) _ (x_load (.int .i64 x.2) rfl e21 (bkCell (HS.get (.head _)) 1 _ rfl) (by rfl)) (hK_ _ _ ⟨qv_up hV (fun _ h => Option.some.inj h), hE⟩)⟩
            · have h20 : (fr l_).tmps[20]? = some (.bool false) := hv_ 8 20 _ (by decide) rfl (hon 8 (by decide))
              have e20 : evl l_ (.tmp 20) = .bool false := evl_of h20
              have e22 : evl l_ (.tmp 22) = .int .i64 x.2 := evl_of (hv_ 10 22 _ (by decide) rfl (hon 10 (by decide)))
              exact ⟨_, rfl, fun K_ hK_ => q_opG (wanted_on (t := 20) rfl rfl rfl h20) _ (x_cmp (k := .i64) (m := x.2) (n := 0) .lss false rfl e22 rfl (decide_eq_false h3) rfl) (hK_ _ _ ⟨qv_up hV (fun _ h => Option.some.inj h), hE⟩)⟩
            · have e20 : evl l_ (.tmp 20) = .bool false := evl_of (hv_ 8 20 _ (by decide) rfl (hon 8 (by decide)))
              have e23 : evl l_ (.tmp 23) = .bool false := evl_of (hv_ 11 23 _ (by decide) rfl (hon 11 (by decide)))
              exact ⟨_, rfl, fun K_ hK_ => q_op _ (x_pick false (.bool true) (.bool false) (.bool false) rfl e20 rfl e23 rfl) (hK_ _ _ ⟨qv_up hV (fun _ h => Option.some.inj h), hE⟩)⟩
            · have e24 : evl l_ (.tmp 24) = .bool false := evl_of (hv_ 12 24 _ (by decide) rfl (hon 12 (by decide)))
              exact ⟨_, rfl, fun K_ hK_ => q_op _ (x_move (.bool false) rfl e24) (hK_ _ _ ⟨qv_up hV (fun _ h => Option.some.inj h), hE⟩)⟩
            · have h25 : (fr l_).tmps[25]? = some (.bool false) := hv_ 13 25 _ (by decide) rfl (hon 13 (by decide))
              have e4 : evl l_ (.tmp 4) = .pointer (some ⟨g34, 0, none⟩) := evl_of ((hel 4 (by decide)).trans rfl)
              have e25 : evl l_ (.tmp 25) = .bool false := evl_of h25
              exact ⟨_, rfl, fun K_ hK_ => q_opG (wanted_on (t := 25) rfl rfl rfl h25) _ (x_field (j := 1) _ _ rfl e4 Try.underlying62 rfl (by rfl) rfl) (hK_ _ _ ⟨qv_up hV (fun _ h => Option.some.inj h), hE⟩)⟩
            · have h25 : (fr l_).tmps[25]? = some (.bool false) := hv_ 13 25 _ (by decide) rfl (hon 13 (by decide))
              have hE0 := hE
              have HS := hE0
              have e25 : evl l_ (.tmp 25) = .bool false := evl_of h25
              have e26 : evl l_ (.tmp 26) = .pointer (some ⟨g34, 1, none⟩) := evl_of (hv_ 14 26 _ (by decide) rfl (hon 14 (by decide)))
              exact ⟨_, rfl, fun K_ hK_ => q_opG (wanted_on (t := 25) rfl rfl rfl h25) _ (x_load (.int .i64 x.2) rfl e26 (bkCell (HS.get (.head _)) 1 _ rfl) (by rfl)) (hK_ _ _ ⟨qv_up hV (fun _ h => Option.some.inj h), hE⟩)⟩
            · have h25 : (fr l_).tmps[25]? = some (.bool false) := hv_ 13 25 _ (by decide) rfl (hon 13 (by decide))
              have e25 : evl l_ (.tmp 25) = .bool false := evl_of h25
              have e27 : evl l_ (.tmp 27) = .int .i64 x.2 := evl_of (hv_ 15 27 _ (by decide) rfl (hon 15 (by decide)))
              exact ⟨_, rfl, fun K_ hK_ => q_opG (wanted_on (t := 25) rfl rfl rfl h25) _ (x_cmp (k := .i64) (m := x.2) (n := 240) .geq false rfl e27 rfl (decide_eq_false h4) rfl) (hK_ _ _ ⟨qv_up hV (fun _ h => Option.some.inj h), hE⟩)⟩
            · have e25 : evl l_ (.tmp 25) = .bool false := evl_of (hv_ 13 25 _ (by decide) rfl (hon 13 (by decide)))
              have e28 : evl l_ (.tmp 28) = .bool false := evl_of (hv_ 16 28 _ (by decide) rfl (hon 16 (by decide)))
              exact ⟨_, rfl, fun K_ hK_ => q_op _ (x_pick false (.bool true) (.bool false) (.bool false) rfl e25 rfl e28 rfl) (hK_ _ _ ⟨qv_up hV (fun _ h => Option.some.inj h), hE⟩)⟩
            · have e29 : evl l_ (.tmp 29) = .bool false := evl_of (hv_ 17 29 _ (by decide) rfl (hon 17 (by decide)))
              exact ⟨_, rfl, fun K_ hK_ => q_op _ (x_move (.bool false) rfl e29) (hK_ _ _ ⟨qv_up hV (fun _ h => Option.some.inj h), hE⟩)⟩
            · have h30 : (fr l_).tmps[30]? = some (.bool false) := hv_ 18 30 _ (by decide) rfl (hon 18 (by decide))
              have e3 : evl l_ (.tmp 3) = .int .i64 (j : Int) := evl_of ((hel 3 (by decide)).trans rfl)
              have e30 : evl l_ (.tmp 30) = .bool false := evl_of h30
              exact ⟨_, rfl, fun K_ hK_ => q_opG (wanted_on (t := 30) rfl rfl rfl h30) _ (x_move (.int .i64 (j : Int)) rfl e3) (hK_ _ _ ⟨qv_up hV (fun _ h => Option.some.inj h), hE⟩)⟩
            · have h30 : (fr l_).tmps[30]? = some (.bool false) := hv_ 18 30 _ (by decide) rfl (hon 18 (by decide))
              have e30 : evl l_ (.tmp 30) = .bool false := evl_of h30
              have e31 : evl l_ (.tmp 31) = .int .i64 (j : Int) := evl_of (hv_ 19 31 _ (by decide) rfl (hon 19 (by decide)))
              exact ⟨_, rfl, fun K_ hK_ => q_opG (wanted_on (t := 30) rfl rfl rfl h30) _ (x_cmp (k := .i64) (m := (j : Int)) (n := 0) .gtr true rfl e31 rfl (decide_eq_true (by omega)) rfl) (hK_ _ _ ⟨qv_up hV (fun _ h => Option.some.inj h), hE⟩)⟩
            · have h30 : (fr l_).tmps[30]? = some (.bool false) := hv_ 18 30 _ (by decide) rfl (hon 18 (by decide))
              have e30 : evl l_ (.tmp 30) = .bool false := evl_of h30
              have e32 : evl l_ (.tmp 32) = .bool true := evl_of (hv_ 20 32 _ (by decide) rfl (hon 20 (by decide)))
              exact ⟨_, rfl, fun K_ hK_ => q_opG (wanted_on (t := 30) rfl rfl rfl h30) _ (x_move (.bool true) rfl e32) (hK_ _ _ ⟨qv_up hV (fun _ h => Option.some.inj h), hE⟩)⟩
            · have h33 : (fr l_).tmps[33]? = some (.bool true) := hv_ 21 33 _ (by decide) rfl (hon 21 (by decide))
              have e4 : evl l_ (.tmp 4) = .pointer (some ⟨g34, 0, none⟩) := evl_of ((hel 4 (by decide)).trans rfl)
              have e33 : evl l_ (.tmp 33) = .bool true := evl_of h33
              exact ⟨_, rfl, fun K_ hK_ => q_opG (wanted_on (t := 33) rfl rfl rfl h33) _ (x_field (j := 0) _ _ rfl e4 Try.underlying62 rfl (by rfl) rfl) (hK_ _ _ ⟨qv_up hV (fun _ h => Option.some.inj h), hE⟩)⟩
            · have h33 : (fr l_).tmps[33]? = some (.bool true) := hv_ 21 33 _ (by decide) rfl (hon 21 (by decide))
              have hE0 := hE
              have HS := hE0
              have e33 : evl l_ (.tmp 33) = .bool true := evl_of h33
              have e34 : evl l_ (.tmp 34) = .pointer (some ⟨g34, 0, none⟩) := evl_of (hv_ 22 34 _ (by decide) rfl (hon 22 (by decide)))
              exact ⟨_, rfl, fun K_ hK_ => q_opG (wanted_on (t := 33) rfl rfl rfl h33) _ (x_load (.int .i64 x.1) rfl e34 (bkCell (HS.get (.head _)) 0 _ rfl) (by rfl)) (hK_ _ _ ⟨qv_up hV (fun _ h => Option.some.inj h), hE⟩)⟩
            · have h33 : (fr l_).tmps[33]? = some (.bool true) := hv_ 21 33 _ (by decide) rfl (hon 21 (by decide))
              have e0 : evl l_ (.tmp 0) = .slice (some ad) es.length c := evl_of ((hel 0 (by decide)).trans rfl)
              have e33 : evl l_ (.tmp 33) = .bool true := evl_of h33
              exact ⟨_, rfl, fun K_ hK_ => q_opG (wanted_on (t := 33) rfl rfl rfl h33) _ (x_move (.slice (some ad) es.length c) rfl e0) (hK_ _ _ ⟨qv_up hV (fun _ h => Option.some.inj h), hE⟩)⟩
            · have h33 : (fr l_).tmps[33]? = some (.bool true) := hv_ 21 33 _ (by decide) rfl (hon 21 (by decide))
              have e3 : evl l_ (.tmp 3) = .int .i64 (j : Int) := evl_of ((hel 3 (by decide)).trans rfl)
              have e33 : evl l_ (.tmp 33) = .bool true := evl_of h33
              exact ⟨_, rfl, fun K_ hK_ => q_opG (wanted_on (t := 33) rfl rfl rfl h33) _ (x_move (.int .i64 (j : Int)) rfl e3) (hK_ _ _ ⟨qv_up hV (fun _ h => Option.some.inj h), hE⟩)⟩
            · have h33 : (fr l_).tmps[33]? = some (.bool true) := hv_ 21 33 _ (by decide) rfl (hon 21 (by decide))
              have e33 : evl l_ (.tmp 33) = .bool true := evl_of h33
              have e37 : evl l_ (.tmp 37) = .int .i64 (j : Int) := evl_of (hv_ 25 37 _ (by decide) rfl (hon 25 (by decide)))
              exact ⟨_, rfl, fun K_ hK_ => q_opG (wanted_on (t := 33) rfl rfl rfl h33) _ (x_arith (k := .i64) (m := (j : Int)) (n := 1) .sub (((j - 1 : Nat) : Int)) rfl e37 rfl (show IntKind.i64.wrap ((j : Int) - 1) = ((j - 1 : Nat) : Int) from ((wr64' (by omega)).trans (by omega))) rfl) (hK_ _ _ ⟨qv_up hV (fun _ h => Option.some.inj h), hE⟩)⟩
            · have h33 : (fr l_).tmps[33]? = some (.bool true) := hv_ 21 33 _ (by decide) rfl (hon 21 (by decide))
              have e33 : evl l_ (.tmp 33) = .bool true := evl_of h33
              have e36 : evl l_ (.tmp 36) = .slice (some ad) es.length c := evl_of (hv_ 24 36 _ (by decide) rfl (hon 24 (by decide)))
              have e38 : evl l_ (.tmp 38) = .int .i64 ((j - 1 : Nat) : Int) := evl_of (hv_ 26 38 _ (by decide) rfl (hon 26 (by decide)))
              exact ⟨_, rfl, fun K_ hK_ => q_opG (wanted_on (t := 33) rfl rfl rfl h33) _ (x_index (A := ad) (j := (j - 1 : Nat) * 2) (sz := 2) rfl e36 e38 Try.underlying50 (by kernel_rfl) (by omega) rfl) (hK_ _ _ ⟨qv_up hV (fun _ h => Option.some.inj h), hE⟩)⟩
            · have h33 : (fr l_).tmps[33]? = some (.bool true) := hv_ 21 33 _ (by decide) rfl (hon 21 (by decide))
              have e33 : evl l_ (.tmp 33) = .bool true := evl_of h33
              have e39 : evl l_ (.tmp 39) = .pointer (some ((ad).add ((j - 1 : Nat) * 2))) := evl_of (hv_ 27 39 _ (by decide) rfl (hon 27 (by decide)))
              exact ⟨_, rfl, fun K_ hK_ => q_opG (wanted_on (t := 33) rfl rfl rfl h33) _ (x_fieldA _ _ rfl e39 Try.underlying62 rfl (by rfl)) (hK_ _ _ ⟨qv_up hV (fun _ h => Option.some.inj h), hE⟩)⟩
            · have h33 : (fr l_).tmps[33]? = some (.bool true) := hv_ 21 33 _ (by decide) rfl (hon 21 (by decide))
              have hE0 := hE
              have HS := hE0
              have e33 : evl l_ (.tmp 33) = .bool true := evl_of h33
              have e40 : evl l_ (.tmp 40) = .pointer (some (((ad).add ((j - 1 : Nat) * 2)).add 0)) := evl_of (hv_ 28 40 _ (by decide) rfl (hon 28 (by decide)))
              exact ⟨_, rfl, fun K_ hK_ => q_opG (wanted_on (t := 33) rfl rfl rfl h33) _ (x_load (.int .i64 ((es.getD (j - 1) (0, 0)).1)) rfl e40 (en_prev (Kd.C_below hr HS.belowOf) j hlt h5) (by rfl)) (hK_ _ _ ⟨qv_up hV (fun _ h => Option.some.inj h), hE⟩)⟩
            · have h33 : (fr l_).tmps[33]? = some (.bool true) := hv_ 21 33 _ (by decide) rfl (hon 21 (by decide))
              have e33 : evl l_ (.tmp 33) = .bool true := evl_of h33
              have e35 : evl l_ (.tmp 35) = .int .i64 x.1 := evl_of (hv_ 23 35 _ (by decide) rfl (hon 23 (by decide)))
              have e41 : evl l_ (.tmp 41) = .int .i64 ((es.getD (j - 1) (0, 0)).1) := evl_of (hv_ 29 41 _ (by decide) rfl (hon 29 (by decide)))
              exact ⟨_, rfl, fun K_ hK_ => q_opG (wanted_on (t := 33) rfl rfl rfl h33) _ (x_cmp (k := .i64) (m := x.1) (n := (es.getD (j - 1) (0, 0)).1) .leq false rfl e35 e41 (decide_eq_false h6) rfl) (hK_ _ _ ⟨qv_up hV (fun _ h => Option.some.inj h), hE⟩)⟩
            · have h30 : (fr l_).tmps[30]? = some (.bool false) := hv_ 18 30 _ (by decide) rfl (hon 18 (by decide))
              have e30 : evl l_ (.tmp 30) = .bool false := evl_of h30
              have e33 : evl l_ (.tmp 33) = .bool true := evl_of (hv_ 21 33 _ (by decide) rfl (hon 21 (by decide)))
              have e42 : evl l_ (.tmp 42) = .bool false := evl_of (hv_ 30 42 _ (by decide) rfl (hon 30 (by decide)))
              exact ⟨_, rfl, fun K_ hK_ => q_opG (wanted_on (t := 30) rfl rfl rfl h30) _ (x_pick true (.bool false) (.bool false) (.bool false) rfl e33 e42 rfl rfl) (hK_ _ _ ⟨qv_up hV (fun _ h => Option.some.inj h), hE⟩)⟩
            · have e30 : evl l_ (.tmp 30) = .bool false := evl_of (hv_ 18 30 _ (by decide) rfl (hon 18 (by decide)))
              have e43 : evl l_ (.tmp 43) = .bool false := evl_of (hv_ 31 43 _ (by decide) rfl (hon 31 (by decide)))
              exact ⟨_, rfl, fun K_ hK_ => q_op _ (x_pick false (.bool true) (.bool false) (.bool false) rfl e30 rfl e43 rfl) (hK_ _ _ ⟨qv_up hV (fun _ h => Option.some.inj h), hE⟩)⟩
          intro bq_ vq_ w_ hall hG
          obtain ⟨hV, hE⟩ := hG
          clear HS
          have HS := hE
          have hv0 := hV 0 _ rfl (hall 0 (by decide))
          have hv1 := hV 1 _ rfl (hall 1 (by decide))
          have hv2 := hV 2 _ rfl (hall 2 (by decide))
          have hv3 := hV 3 _ rfl (hall 3 (by decide))
          have hv4 := hV 4 _ rfl (hall 4 (by decide))
          have hv5 := hV 5 _ rfl (hall 5 (by decide))
          have hv6 := hV 6 _ rfl (hall 6 (by decide))
          have hv7 := hV 7 _ rfl (hall 7 (by decide))
          have hv8 := hV 8 _ rfl (hall 8 (by decide))
          have hv9 := hV 9 _ rfl (hall 9 (by decide))
          have hv10 := hV 10 _ rfl (hall 10 (by decide))
          have hv11 := hV 11 _ rfl (hall 11 (by decide))
          have hv12 := hV 12 _ rfl (hall 12 (by decide))
          have hv13 := hV 13 _ rfl (hall 13 (by decide))
          have hv14 := hV 14 _ rfl (hall 14 (by decide))
          have hv15 := hV 15 _ rfl (hall 15 (by decide))
          have hv16 := hV 16 _ rfl (hall 16 (by decide))
          have hv17 := hV 17 _ rfl (hall 17 (by decide))
          have hv18 := hV 18 _ rfl (hall 18 (by decide))
          have hv19 := hV 19 _ rfl (hall 19 (by decide))
          have hv20 := hV 20 _ rfl (hall 20 (by decide))
          have hv21 := hV 21 _ rfl (hall 21 (by decide))
          have hv22 := hV 22 _ rfl (hall 22 (by decide))
          have hv23 := hV 23 _ rfl (hall 23 (by decide))
          have hv24 := hV 24 _ rfl (hall 24 (by decide))
          have hv25 := hV 25 _ rfl (hall 25 (by decide))
          have hv26 := hV 26 _ rfl (hall 26 (by decide))
          have hv27 := hV 27 _ rfl (hall 27 (by decide))
          have hv28 := hV 28 _ rfl (hall 28 (by decide))
          have hv29 := hV 29 _ rfl (hall 29 (by decide))
          have hv30 := hV 30 _ rfl (hall 30 (by decide))
          have hv31 := hV 31 _ rfl (hall 31 (by decide))
          have hv32 := hV 32 _ rfl (hall 32 (by decide))
          clear hV hall
          rw [putSel_fr]
          simp only [tells, List.map_cons, List.map_nil, setAll, List.set_cons_succ, List.set_cons_zero, hv0, hv1, hv2, hv3, hv4, hv5, hv6, hv7, hv8, hv9, hv10, hv11, hv12, hv13, hv14, hv15, hv16, hv17, hv18, hv19, hv20, hv21, hv22, hv23, hv24, hv25, hv26, hv27, hv28, hv29, hv30, hv31, hv32]
          clear hv0 hv1 hv2 hv3 hv4 hv5 hv6 hv7 hv8 hv9 hv10 hv11 hv12 hv13 hv14 hv15 hv16 hv17 hv18 hv19 hv20 hv21 hv22 hv23 hv24 hv25 hv26 hv27 hv28 hv29 hv30 hv31 hv32
          generalize w_ = w902901 at HS ⊢
          refine fr_at (l' := (.slice (some ad) es.length c :: undef :: uq11.1 :: .int .i64 (j : Int) :: .pointer (some ⟨g34, 0, none⟩) :: .slice (some ad) es.length c :: .int .i64 (es.length : Int) :: .int .i64 (j : Int) :: .bool (decide ((j : Int) < (es.length : Int))) :: .int .i64 (j : Int) :: .pointer (some ((ad).add (j * 2))) :: .agg ([.int .i64 x.1, .int .i64 x.2] : List Value).toArray :: .pointer (some ⟨g34, 0, none⟩) :: .int .i64 x.1 :: .bool false :: .bool false :: .pointer (some ⟨g34, 0, none⟩) :: .int .i64 x.1 :: .bool false :: .bool false :: .bool false :: .pointer (some ⟨g34, 1, none⟩) :: .int .i64 x.2 :: .bool false :: .bool false :: .bool false :: .pointer (some ⟨g34, 1, none⟩) :: .int .i64 x.2 :: .bool false :: .bool false :: .bool false :: .int .i64 (j : Int) :: .bool true :: .bool true :: .pointer (some ⟨g34, 0, none⟩) :: .int .i64 x.1 :: .slice (some ad) es.length c :: .int .i64 (j : Int) :: .int .i64 ((j - 1 : Nat) : Int) :: .pointer (some ((ad).add ((j - 1 : Nat) * 2))) :: .pointer (some (((ad).add ((j - 1 : Nat) * 2)).add 0)) :: .int .i64 ((es.getD (j - 1) (0, 0)).1) :: .bool false :: .bool false :: .bool false :: uq17.2.2.2.2 :: U8l1 ([]))) rfl ?_
          refine hK39 _ _ ?_
          refine c_false rfl ?_
          refine wp_skip ?_
          refine hK29 _ _ ?_
          refine c_region (fun ops902903 hops902902 => ?_)
          clear hops902902
          refine p_run (l' := _) _ (x_arith (k := .i64) (m := (j : Int)) (n := 1) .add (((j + 1 : Nat) : Int)) rfl rfl rfl (show IntKind.i64.wrap ((j : Int) + 1) = ((j + 1 : Nat) : Int) from ((wr64' (by omega)).trans (by omega))) rfl) rfl ?_
          refine p_run (l' := _) _ (x_move (.int .i64 ((j + 1 : Nat) : Int)) rfl rfl) rfl ?_
          refine wpList_nil ?_
          refine fr_at (l' := (.slice (some ad) es.length c :: undef :: uq11.1 :: .int .i64 (j : Int) :: .pointer (some ⟨g34, 0, none⟩) :: .slice (some ad) es.length c :: .int .i64 (es.length : Int) :: .int .i64 ((j + 1 : Nat) : Int) :: .bool (decide ((j : Int) < (es.length : Int))) :: .int .i64 (j : Int) :: .pointer (some ((ad).add (j * 2))) :: .agg ([.int .i64 x.1, .int .i64 x.2] : List Value).toArray :: .pointer (some ⟨g34, 0, none⟩) :: .int .i64 x.1 :: .bool false :: .bool false :: .pointer (some ⟨g34, 0, none⟩) :: .int .i64 x.1 :: .bool false :: .bool false :: .bool false :: .pointer (some ⟨g34, 1, none⟩) :: .int .i64 x.2 :: .bool false :: .bool false :: .bool false :: .pointer (some ⟨g34, 1, none⟩) :: .int .i64 x.2 :: .bool false :: .bool false :: .bool false :: .int .i64 (j : Int) :: .bool true :: .bool true :: .pointer (some ⟨g34, 0, none⟩) :: .int .i64 x.1 :: .slice (some ad) es.length c :: .int .i64 (j : Int) :: .int .i64 ((j - 1 : Nat) : Int) :: .pointer (some ((ad).add ((j - 1 : Nat) * 2))) :: .pointer (some (((ad).add ((j - 1 : Nat) * 2)).add 0)) :: .int .i64 ((es.getD (j - 1) (0, 0)).1) :: .bool false :: .bool false :: .bool false :: .int .i64 ((j + 1 : Nat) : Int) :: U8l1 ([]))) rfl ?_
          refine hJ19 (j + 1) _ _ ?_ ?_
          · show es.length - (j + 1) < es.length - j; omega
          · exact ⟨(uq11.1, .int .i64 (j : Int), .pointer (some ⟨g34, 0, none⟩), .bool (decide ((j : Int) < (es.length : Int))), .int .i64 (j : Int), .pointer (some ((ad).add (j * 2)))), (.agg ([.int .i64 x.1, .int .i64 x.2] : List Value).toArray, .pointer (some ⟨g34, 0, none⟩), .int .i64 x.1, .bool false, .bool false, .pointer (some ⟨g34, 0, none⟩)), (.int .i64 x.1, .bool false, .bool false, .bool false, .pointer (some ⟨g34, 1, none⟩), .int .i64 x.2), (.bool false, .bool false, .bool false, .pointer (some ⟨g34, 1, none⟩), .int .i64 x.2, .bool false), (.bool false, .bool false, .int .i64 (j : Int), .bool true, .bool true, .pointer (some ⟨g34, 0, none⟩)), (.int .i64 x.1, .slice (some ad) es.length c, .int .i64 (j : Int), .int .i64 ((j - 1 : Nat) : Int), .pointer (some ((ad).add ((j - 1 : Nat) * 2))), .pointer (some (((ad).add ((j - 1 : Nat) * 2)).add 0))), (.int .i64 ((es.getD (j - 1) (0, 0)).1), .bool false, .bool false, .bool false, .int .i64 ((j + 1 : Nat) : Int)), rfl, HS.drop, ⟨(by omega), (by rw [riseK_snoc, hI.2, he]; rfl)⟩⟩
        · skip
          refine free_frame (n := 33) (T := _) [0, 1, 3, 7, 15, 31, 63, 127, 255, 511, 1023, 2047, 4095, 8191, 16383, 32767, 65535, 131071, 262143, 524287, 1048575, 2097151, 4194303, 8388607, 4194303, 4194303, 37748735, 121634815, 255852543, 524287999, 1073741823, 2147483647, 4294967295] [(0, 12), (1, 13), (2, 14), (3, 15), (4, 16), (5, 17), (6, 18), (7, 19), (8, 20), (9, 21), (10, 22), (11, 23), (12, 24), (13, 25), (14, 26), (15, 27), (16, 28), (17, 29), (18, 30), (19, 31), (20, 32), (21, 33), (22, 34), (23, 35), (24, 36), (25, 37), (26, 38), (27, 39), (28, 40), (29, 41), (30, 42), (31, 43), (32, 44)] (fun bq_ vq_ w_ => qv ((fun i_ => match i_ with | 0 => some (.pointer (some ⟨g34, 0, none⟩)) | 1 => some (.int .i64 x.1) | 2 => some (.bool false) | 3 => some (.bool false) | 4 => some (.pointer (some ⟨g34, 0, none⟩)) | 5 => some (.int .i64 x.1) | 6 => some (.bool false) | 7 => some (.bool false) | 8 => some (.bool false) | 9 => some (.pointer (some ⟨g34, 1, none⟩)) | 10 => some (.int .i64 x.2) | 11 => some (.bool false) | 12 => some (.bool false) | 13 => some (.bool false) | 14 => some (.pointer (some ⟨g34, 1, none⟩)) | 15 => some (.int .i64 x.2) | 16 => some (.bool false) | 17 => some (.bool false) | 18 => some (.bool false) | 19 => some (.int .i64 (j : Int)) | 20 => some (.bool true) | 21 => some (.bool true) | 22 => some (.pointer (some ⟨g34, 0, none⟩)) | 23 => some (.int .i64 x.1) | 24 => some (.slice (some ad) es.length c) | 25 => some (.int .i64 (j : Int)) | 26 => some (.int .i64 ((j - 1 : Nat) : Int)) | 27 => some (.pointer (some ((ad).add ((j - 1 : Nat) * 2)))) | 28 => some (.pointer (some (((ad).add ((j - 1 : Nat) * 2)).add 0))) | 29 => some (.int .i64 ((es.getD (j - 1) (0, 0)).1)) | 30 => some (.bool true) | 31 => some (.bool true) | 32 => some (.bool true) | _ => none) : Nat → Option Value) bq_ vq_ ∧ (St w (fun _ => False) w_ ([blk g34 [.int .i64 x.1, .int .i64 x.2] 62]))) (by kernel_rfl) rfl rfl (by kernel_rfl) (by kernel_rfl) rfl (by kernel_rfl) (by kernel_rfl) ⟨qv_none, HS.draw⟩ ?_ ?_
          · clear HS
            intro i_ hi_ bq_ vq_ a_ w_ hG hb_ hon hoff hfr hel hval
            obtain ⟨hV, hE⟩ := hG
            have hi_ := List.mem_range.1 hi_
            obtain ⟨l_, rfl⟩ := hfr
            have hv_ := fun (j t : Nat) (v : Value) (h1 : (j, t) ∈ [(0, 12), (1, 13), (2, 14), (3, 15), (4, 16), (5, 17), (6, 18), (7, 19), (8, 20), (9, 21), (10, 22), (11, 23), (12, 24), (13, 25), (14, 26), (15, 27), (16, 28), (17, 29), (18, 30), (19, 31), (20, 32), (21, 33), (22, 34), (23, 35), (24, 36), (25, 37), (26, 38), (27, 39), (28, 40), (29, 41), (30, 42), (31, 43), (32, 44)]) h2 h3 => (hval (j, t) h1 h3).trans (congrArg some (hV j v h2 h3))
            have hcs : i_ = 0 ∨ i_ = 1 ∨ i_ = 2 ∨ i_ = 3 ∨ i_ = 4 ∨ i_ = 5 ∨ i_ = 6 ∨ i_ = 7 ∨ i_ = 8 ∨ i_ = 9 ∨ i_ = 10 ∨ i_ = 11 ∨ i_ = 12 ∨ i_ = 13 ∨ i_ = 14 ∨ i_ = 15 ∨ i_ = 16 ∨ i_ = 17 ∨ i_ = 18 ∨ i_ = 19 ∨ i_ = 20 ∨ i_ = 21 ∨ i_ = 22 ∨ i_ = 23 ∨ i_ = 24 ∨ i_ = 25 ∨ i_ = 26 ∨ i_ = 27 ∨ i_ = 28 ∨ i_ = 29 ∨ i_ = 30 ∨ i_ = 31 ∨ i_ = 32 := by omega
            rcases hcs with rfl | rfl | rfl | rfl | rfl | rfl | rfl | rfl | rfl | rfl | rfl | rfl | rfl | rfl | rfl | rfl | rfl | rfl | rfl | rfl | rfl | rfl | rfl | rfl | rfl | rfl | rfl | rfl | rfl | rfl | rfl | rfl | rfl
            · have e4 : evl l_ (.tmp 4) = .pointer (some ⟨g34, 0, none⟩) := evl_of ((hel 4 (by decide)).trans rfl)
              exact ⟨_, rfl, fun K_ hK_ => q_op _ (x_field (j := 0) _ _ rfl e4 Try.underlying62 rfl (by rfl) rfl) (hK_ _ _ ⟨qv_up hV (fun _ h => Option.some.inj h), hE⟩)⟩
            · have hE0 := hE
              have HS := hE0
              have e12 : evl l_ (.tmp 12) = .pointer (some ⟨g34, 0, none⟩) := evl_of (hv_ 0 12 _ (by decide) rfl (hon 0 (by decide)))
              exact ⟨_, rfl, fun K_ hK_ => q_op _ (x_load (.int .i64 x.1) rfl e12 (bkCell (HS.get (.head _)) 0 _ rfl) (by rfl)) (hK_ _ _ ⟨qv_up hV (fun _ h => Option.some.inj h), hE⟩)⟩
            · have e13 : evl l_ (.tmp 13) = .int .i64 x.1 := evl_of (hv_ 1 13 _ (by decide) rfl (hon 1 (by decide)))
              exact ⟨_, rfl, fun K_ hK_ => q_op _ (x_cmp (k := .i64) (m := x.1) (n := 0) .lss false rfl e13 rfl (decide_eq_false h1) rfl) (hK_ _ _ ⟨qv_up hV (fun _ h => Option.some.inj h), hE⟩)⟩
            · have e14 : evl l_ (.tmp 14) = .bool false := evl_of (hv_ 2 14 _ (by decide) rfl (hon 2 (by decide)))
              exact ⟨_, rfl, fun K_ hK_ => q_op _ (x_move (.bool false) rfl e14) (hK_ _ _ ⟨qv_up hV (fun _ h => Option.some.inj h), hE⟩)⟩
            · have h15 : (fr l_).tmps[15]? = some (.bool false) := hv_ 3 15 _ (by decide) rfl (hon 3 (by decide))
              have e4 : evl l_ (.tmp 4) = .pointer (some ⟨g34, 0, none⟩) := evl_of ((hel 4 (by decide)).trans rfl)
              have e15 : evl l_ (.tmp 15) = .bool false := evl_of h15
              exact ⟨_, rfl, fun K_ hK_ => q_opG (wanted_on (t := 15) rfl rfl rfl h15) _ (x_field (j := 0) _ _ rfl e4 Try.underlying62 rfl (by rfl) rfl) (hK_ _ _ ⟨qv_up hV (fun _ h => Option.some.inj h), hE⟩)⟩
            · have h15 : (fr l_).tmps[15]? = some (.bool false) := hv_ 3 15 _ (by decide) rfl (hon 3 (by decide))
              have hE0 := hE
              have HS := hE0
              have e15 : evl l_ (.tmp 15) = .bool false := evl_of h15
              have e16 : evl l_ (.tmp 16) = .pointer (some ⟨g34, 0, none⟩) := evl_of (hv_ 4 16 _ (by decide) rfl (hon 4 (by decide)))
              exact ⟨_, rfl, fun K_ hK_ => q_opG (wanted_on (t := 15) rfl rfl rfl h15) _ (x_load (.int .i64 x.1) rfl e16 (bkCell (HS.get (.head _)) 0 _ rfl) (by rfl)) (hK_ _ _ ⟨qv_up hV (fun _ h => Option.some.inj h), hE⟩)⟩
            · have h15 : (fr l_).tmps[15]? = some (.bool false) := hv_ 3 15 _ (by decide) rfl (hon 3 (by decide))
              have e15 : evl l_ (.tmp 15) = .bool false := evl_of h15
              have e17 : evl l_ (.tmp 17) = .int .i64 x.1 := evl_of (hv_ 5 17 _ (by decide) rfl (hon 5 (by decide)))
              exact ⟨_, rfl, fun K_ hK_ => q_opG (wanted_on (t := 15) rfl rfl rfl h15) _ (x_cmp (k := .i64) (m := x.1) (n := 64) .geq false rfl e17 rfl (decide_eq_false h2) rfl) (hK_ _ _ ⟨qv_up hV (fun _ h => Option.some.inj h), hE⟩)⟩
            · have e15 : evl l_ (.tmp 15) = .bool false := evl_of (hv_ 3 15 _ (by decide) rfl (hon 3 (by decide)))
              have e18 : evl l_ (.tmp 18) = .bool false := evl_of (hv_ 6 18 _ (by decide) rfl (hon 6 (by decide)))
              exact ⟨_, rfl, fun K_ hK_ => q_op _ (x_pick false (.bool true) (.bool false) (.bool false) rfl e15 rfl e18 rfl) (hK_ _ _ ⟨qv_up hV (fun _ h => Option.some.inj h), hE⟩)⟩
            · have e19 : evl l_ (.tmp 19) = .bool false := evl_of (hv_ 7 19 _ (by decide) rfl (hon 7 (by decide)))
              exact ⟨_, rfl, fun K_ hK_ => q_op _ (x_move (.bool false) rfl e19) (hK_ _ _ ⟨qv_up hV (fun _ h => Option.some.inj h), hE⟩)⟩
            · have h20 : (fr l_).tmps[20]? = some (.bool false) := hv_ 8 20 _ (by decide) rfl (hon 8 (by decide))
              have e4 : evl l_ (.tmp 4) = .pointer (some ⟨g34, 0, none⟩) := evl_of ((hel 4 (by decide)).trans rfl)
              have e20 : evl l_ (.tmp 20) = .bool false := evl_of h20
              exact ⟨_, rfl, fun K_ hK_ => q_opG (wanted_on (t := 20) rfl rfl rfl h20) _ (x_field (j := 1) _ _ rfl e4 Try.underlying62 rfl (by rfl) rfl) (hK_ _ _ ⟨qv_up hV (fun _ h => Option.some.inj h), hE⟩)⟩
            · have h20 : (fr l_).tmps[20]? = some (.bool false) := hv_ 8 20 _ (by decide) rfl (hon 8 (by decide))
              have hE0 := hE
              have HS := hE0
              have e20 : evl l_ (.tmp 20) = .bool false := evl_of h20
              have e21 : evl l_ (.tmp 21) = .pointer (some ⟨g34, 1, none⟩) := evl_of (hv_ 9 21 _ (by decide) rfl (hon 9 (by decide)))
              exact ⟨_, rfl, fun K_ hK_ => q_opG (wanted_on (t := 20) rfl rfl rfl h20) _ (x_load (.int .i64 x.2) rfl e21 (bkCell (HS.get (.head _)) 1 _ rfl) (by rfl)) (hK_ _ _ ⟨qv_up hV (fun _ h => Option.some.inj h), hE⟩)⟩
            · have h20 : (fr l_).tmps[20]? = some (.bool false) := hv_ 8 20 _ (by decide) rfl (hon 8 (by decide))
              have e20 : evl l_ (.tmp 20) = .bool false := evl_of h20
              have e22 : evl l_ (.tmp 22) = .int .i64 x.2 := evl_of (hv_ 10 22 _ (by decide) rfl (hon 10 (by decide)))
              exact ⟨_, rfl, fun K_ hK_ => q_opG (wanted_on (t := 20) rfl rfl rfl h20) _ (x_cmp (k := .i64) (m := x.2) (n := 0) .lss false rfl e22 rfl (decide_eq_false h3) rfl) (hK_ _ _ ⟨qv_up hV (fun _ h => Option.some.inj h), hE⟩)⟩
            · have e20 : evl l_ (.tmp 20) = .bool false := evl_of (hv_ 8 20 _ (by decide) rfl (hon 8 (by decide)))
              have e23 : evl l_ (.tmp 23) = .bool false := evl_of (hv_ 11 23 _ (by decide) rfl (hon 11 (by decide)))
              exact ⟨_, rfl, fun K_ hK_ => q_op _ (x_pick false (.bool true) (.bool false) (.bool false) rfl e20 rfl e23 rfl) (hK_ _ _ ⟨qv_up hV (fun _ h => Option.some.inj h), hE⟩)⟩
            · have e24 : evl l_ (.tmp 24) = .bool false := evl_of (hv_ 12 24 _ (by decide) rfl (hon 12 (by decide)))
              exact ⟨_, rfl, fun K_ hK_ => q_op _ (x_move (.bool false) rfl e24) (hK_ _ _ ⟨qv_up hV (fun _ h => Option.some.inj h), hE⟩)⟩
            · have h25 : (fr l_).tmps[25]? = some (.bool false) := hv_ 13 25 _ (by decide) rfl (hon 13 (by decide))
              have e4 : evl l_ (.tmp 4) = .pointer (some ⟨g34, 0, none⟩) := evl_of ((hel 4 (by decide)).trans rfl)
              have e25 : evl l_ (.tmp 25) = .bool false := evl_of h25
              exact ⟨_, rfl, fun K_ hK_ => q_opG (wanted_on (t := 25) rfl rfl rfl h25) _ (x_field (j := 1) _ _ rfl e4 Try.underlying62 rfl (by rfl) rfl) (hK_ _ _ ⟨qv_up hV (fun _ h => Option.some.inj h), hE⟩)⟩
            · have h25 : (fr l_).tmps[25]? = some (.bool false) := hv_ 13 25 _ (by decide) rfl (hon 13 (by decide))
              have hE0 := hE
              have HS := hE0
              have e25 : evl l_ (.tmp 25) = .bool false := evl_of h25
              have e26 : evl l_ (.tmp 26) = .pointer (some ⟨g34, 1, none⟩) := evl_of (hv_ 14 26 _ (by decide) rfl (hon 14 (by decide)))
              exact ⟨_, rfl, fun K_ hK_ => q_opG (wanted_on (t := 25) rfl rfl rfl h25) _ (x_load (.int .i64 x.2) rfl e26 (bkCell (HS.get (.head _)) 1 _ rfl) (by rfl)) (hK_ _ _ ⟨qv_up hV (fun _ h => Option.some.inj h), hE⟩)⟩
            · have h25 : (fr l_).tmps[25]? = some (.bool false) := hv_ 13 25 _ (by decide) rfl (hon 13 (by decide))
              have e25 : evl l_ (.tmp 25) = .bool false := evl_of h25
              have e27 : evl l_ (.tmp 27) = .int .i64 x.2 := evl_of (hv_ 15 27 _ (by decide) rfl (hon 15 (by decide)))
              exact ⟨_, rfl, fun K_ hK_ => q_opG (wanted_on (t := 25) rfl rfl rfl h25) _ (x_cmp (k := .i64) (m := x.2) (n := 240) .geq false rfl e27 rfl (decide_eq_false h4) rfl) (hK_ _ _ ⟨qv_up hV (fun _ h => Option.some.inj h), hE⟩)⟩
            · have e25 : evl l_ (.tmp 25) = .bool false := evl_of (hv_ 13 25 _ (by decide) rfl (hon 13 (by decide)))
              have e28 : evl l_ (.tmp 28) = .bool false := evl_of (hv_ 16 28 _ (by decide) rfl (hon 16 (by decide)))
              exact ⟨_, rfl, fun K_ hK_ => q_op _ (x_pick false (.bool true) (.bool false) (.bool false) rfl e25 rfl e28 rfl) (hK_ _ _ ⟨qv_up hV (fun _ h => Option.some.inj h), hE⟩)⟩
            · have e29 : evl l_ (.tmp 29) = .bool false := evl_of (hv_ 17 29 _ (by decide) rfl (hon 17 (by decide)))
              exact ⟨_, rfl, fun K_ hK_ => q_op _ (x_move (.bool false) rfl e29) (hK_ _ _ ⟨qv_up hV (fun _ h => Option.some.inj h), hE⟩)⟩
            · have h30 : (fr l_).tmps[30]? = some (.bool false) := hv_ 18 30 _ (by decide) rfl (hon 18 (by decide))
              have e3 : evl l_ (.tmp 3) = .int .i64 (j : Int) := evl_of ((hel 3 (by decide)).trans rfl)
              have e30 : evl l_ (.tmp 30) = .bool false := evl_of h30
              exact ⟨_, rfl, fun K_ hK_ => q_opG (wanted_on (t := 30) rfl rfl rfl h30) _ (x_move (.int .i64 (j : Int)) rfl e3) (hK_ _ _ ⟨qv_up hV (fun _ h => Option.some.inj h), hE⟩)⟩
            · have h30 : (fr l_).tmps[30]? = some (.bool false) := hv_ 18 30 _ (by decide) rfl (hon 18 (by decide))
              have e30 : evl l_ (.tmp 30) = .bool false := evl_of h30
              have e31 : evl l_ (.tmp 31) = .int .i64 (j : Int) := evl_of (hv_ 19 31 _ (by decide) rfl (hon 19 (by decide)))
              exact ⟨_, rfl, fun K_ hK_ => q_opG (wanted_on (t := 30) rfl rfl rfl h30) _ (x_cmp (k := .i64) (m := (j : Int)) (n := 0) .gtr true rfl e31 rfl (decide_eq_true (by omega)) rfl) (hK_ _ _ ⟨qv_up hV (fun _ h => Option.some.inj h), hE⟩)⟩
            · have h30 : (fr l_).tmps[30]? = some (.bool false) := hv_ 18 30 _ (by decide) rfl (hon 18 (by decide))
              have e30 : evl l_ (.tmp 30) = .bool false := evl_of h30
              have e32 : evl l_ (.tmp 32) = .bool true := evl_of (hv_ 20 32 _ (by decide) rfl (hon 20 (by decide)))
              exact ⟨_, rfl, fun K_ hK_ => q_opG (wanted_on (t := 30) rfl rfl rfl h30) _ (x_move (.bool true) rfl e32) (hK_ _ _ ⟨qv_up hV (fun _ h => Option.some.inj h), hE⟩)⟩
            · have h33 : (fr l_).tmps[33]? = some (.bool true) := hv_ 21 33 _ (by decide) rfl (hon 21 (by decide))
              have e4 : evl l_ (.tmp 4) = .pointer (some ⟨g34, 0, none⟩) := evl_of ((hel 4 (by decide)).trans rfl)
              have e33 : evl l_ (.tmp 33) = .bool true := evl_of h33
              exact ⟨_, rfl, fun K_ hK_ => q_opG (wanted_on (t := 33) rfl rfl rfl h33) _ (x_field (j := 0) _ _ rfl e4 Try.underlying62 rfl (by rfl) rfl) (hK_ _ _ ⟨qv_up hV (fun _ h => Option.some.inj h), hE⟩)⟩
            · have h33 : (fr l_).tmps[33]? = some (.bool true) := hv_ 21 33 _ (by decide) rfl (hon 21 (by decide))
              have hE0 := hE
              have HS := hE0
              have e33 : evl l_ (.tmp 33) = .bool true := evl_of h33
              have e34 : evl l_ (.tmp 34) = .pointer (some ⟨g34, 0, none⟩) := evl_of (hv_ 22 34 _ (by decide) rfl (hon 22 (by decide)))
              exact ⟨_, rfl, fun K_ hK_ => q_opG (wanted_on (t := 33) rfl rfl rfl h33) _ (x_load (.int .i64 x.1) rfl e34 (bkCell (HS.get (.head _)) 0 _ rfl) (by rfl)) (hK_ _ _ ⟨qv_up hV (fun _ h => Option.some.inj h), hE⟩)⟩
            · have h33 : (fr l_).tmps[33]? = some (.bool true) := hv_ 21 33 _ (by decide) rfl (hon 21 (by decide))
              have e0 : evl l_ (.tmp 0) = .slice (some ad) es.length c := evl_of ((hel 0 (by decide)).trans rfl)
              have e33 : evl l_ (.tmp 33) = .bool true := evl_of h33
              exact ⟨_, rfl, fun K_ hK_ => q_opG (wanted_on (t := 33) rfl rfl rfl h33) _ (x_move (.slice (some ad) es.length c) rfl e0) (hK_ _ _ ⟨qv_up hV (fun _ h => Option.some.inj h), hE⟩)⟩
            · have h33 : (fr l_).tmps[33]? = some (.bool true) := hv_ 21 33 _ (by decide) rfl (hon 21 (by decide))
              have e3 : evl l_ (.tmp 3) = .int .i64 (j : Int) := evl_of ((hel 3 (by decide)).trans rfl)
              have e33 : evl l_ (.tmp 33) = .bool true := evl_of h33
              exact ⟨_, rfl, fun K_ hK_ => q_opG (wanted_on (t := 33) rfl rfl rfl h33) _ (x_move (.int .i64 (j : Int)) rfl e3) (hK_ _ _ ⟨qv_up hV (fun _ h => Option.some.inj h), hE⟩)⟩
            · have h33 : (fr l_).tmps[33]? = some (.bool true) := hv_ 21 33 _ (by decide) rfl (hon 21 (by decide))
              have e33 : evl l_ (.tmp 33) = .bool true := evl_of h33
              have e37 : evl l_ (.tmp 37) = .int .i64 (j : Int) := evl_of (hv_ 25 37 _ (by decide) rfl (hon 25 (by decide)))
              exact ⟨_, rfl, fun K_ hK_ => q_opG (wanted_on (t := 33) rfl rfl rfl h33) _ (x_arith (k := .i64) (m := (j : Int)) (n := 1) .sub (((j - 1 : Nat) : Int)) rfl e37 rfl (show IntKind.i64.wrap ((j : Int) - 1) = ((j - 1 : Nat) : Int) from ((wr64' (by omega)).trans (by omega))) rfl) (hK_ _ _ ⟨qv_up hV (fun _ h => Option.some.inj h), hE⟩)⟩
            · have h33 : (fr l_).tmps[33]? = some (.bool true) := hv_ 21 33 _ (by decide) rfl (hon 21 (by decide))
              have e33 : evl l_ (.tmp 33) = .bool true := evl_of h33
              have e36 : evl l_ (.tmp 36) = .slice (some ad) es.length c := evl_of (hv_ 24 36 _ (by decide) rfl (hon 24 (by decide)))
              have e38 : evl l_ (.tmp 38) = .int .i64 ((j - 1 : Nat) : Int) := evl_of (hv_ 26 38 _ (by decide) rfl (hon 26 (by decide)))
              exact ⟨_, rfl, fun K_ hK_ => q_opG (wanted_on (t := 33) rfl rfl rfl h33) _ (x_index (A := ad) (j := (j - 1 : Nat) * 2) (sz := 2) rfl e36 e38 Try.underlying50 (by kernel_rfl) (by omega) rfl) (hK_ _ _ ⟨qv_up hV (fun _ h => Option.some.inj h), hE⟩)⟩
            · have h33 : (fr l_).tmps[33]? = some (.bool true) := hv_ 21 33 _ (by decide) rfl (hon 21 (by decide))
              have e33 : evl l_ (.tmp 33) = .bool true := evl_of h33
              have e39 : evl l_ (.tmp 39) = .pointer (some ((ad).add ((j - 1 : Nat) * 2))) := evl_of (hv_ 27 39 _ (by decide) rfl (hon 27 (by decide)))
              exact ⟨_, rfl, fun K_ hK_ => q_opG (wanted_on (t := 33) rfl rfl rfl h33) _ (x_fieldA _ _ rfl e39 Try.underlying62 rfl (by rfl)) (hK_ _ _ ⟨qv_up hV (fun _ h => Option.some.inj h), hE⟩)⟩
            · have h33 : (fr l_).tmps[33]? = some (.bool true) := hv_ 21 33 _ (by decide) rfl (hon 21 (by decide))
              have hE0 := hE
              have HS := hE0
              have e33 : evl l_ (.tmp 33) = .bool true := evl_of h33
              have e40 : evl l_ (.tmp 40) = .pointer (some (((ad).add ((j - 1 : Nat) * 2)).add 0)) := evl_of (hv_ 28 40 _ (by decide) rfl (hon 28 (by decide)))
              exact ⟨_, rfl, fun K_ hK_ => q_opG (wanted_on (t := 33) rfl rfl rfl h33) _ (x_load (.int .i64 ((es.getD (j - 1) (0, 0)).1)) rfl e40 (en_prev (Kd.C_below hr HS.belowOf) j hlt h5) (by rfl)) (hK_ _ _ ⟨qv_up hV (fun _ h => Option.some.inj h), hE⟩)⟩
            · have h33 : (fr l_).tmps[33]? = some (.bool true) := hv_ 21 33 _ (by decide) rfl (hon 21 (by decide))
              have e33 : evl l_ (.tmp 33) = .bool true := evl_of h33
              have e35 : evl l_ (.tmp 35) = .int .i64 x.1 := evl_of (hv_ 23 35 _ (by decide) rfl (hon 23 (by decide)))
              have e41 : evl l_ (.tmp 41) = .int .i64 ((es.getD (j - 1) (0, 0)).1) := evl_of (hv_ 29 41 _ (by decide) rfl (hon 29 (by decide)))
              exact ⟨_, rfl, fun K_ hK_ => q_opG (wanted_on (t := 33) rfl rfl rfl h33) _ (x_cmp (k := .i64) (m := x.1) (n := (es.getD (j - 1) (0, 0)).1) .leq true rfl e35 e41 (decide_eq_true h6) rfl) (hK_ _ _ ⟨qv_up hV (fun _ h => Option.some.inj h), hE⟩)⟩
            · have h30 : (fr l_).tmps[30]? = some (.bool false) := hv_ 18 30 _ (by decide) rfl (hon 18 (by decide))
              have e30 : evl l_ (.tmp 30) = .bool false := evl_of h30
              have e33 : evl l_ (.tmp 33) = .bool true := evl_of (hv_ 21 33 _ (by decide) rfl (hon 21 (by decide)))
              have e42 : evl l_ (.tmp 42) = .bool true := evl_of (hv_ 30 42 _ (by decide) rfl (hon 30 (by decide)))
              exact ⟨_, rfl, fun K_ hK_ => q_opG (wanted_on (t := 30) rfl rfl rfl h30) _ (x_pick true (.bool true) (.bool false) (.bool true) rfl e33 e42 rfl rfl) (hK_ _ _ ⟨qv_up hV (fun _ h => Option.some.inj h), hE⟩)⟩
            · have e30 : evl l_ (.tmp 30) = .bool false := evl_of (hv_ 18 30 _ (by decide) rfl (hon 18 (by decide)))
              have e43 : evl l_ (.tmp 43) = .bool true := evl_of (hv_ 31 43 _ (by decide) rfl (hon 31 (by decide)))
              exact ⟨_, rfl, fun K_ hK_ => q_op _ (x_pick false (.bool true) (.bool true) (.bool true) rfl e30 rfl e43 rfl) (hK_ _ _ ⟨qv_up hV (fun _ h => Option.some.inj h), hE⟩)⟩
          intro bq_ vq_ w_ hall hG
          obtain ⟨hV, hE⟩ := hG
          clear HS
          have HS := hE
          have hv0 := hV 0 _ rfl (hall 0 (by decide))
          have hv1 := hV 1 _ rfl (hall 1 (by decide))
          have hv2 := hV 2 _ rfl (hall 2 (by decide))
          have hv3 := hV 3 _ rfl (hall 3 (by decide))
          have hv4 := hV 4 _ rfl (hall 4 (by decide))
          have hv5 := hV 5 _ rfl (hall 5 (by decide))
          have hv6 := hV 6 _ rfl (hall 6 (by decide))
          have hv7 := hV 7 _ rfl (hall 7 (by decide))
          have hv8 := hV 8 _ rfl (hall 8 (by decide))
          have hv9 := hV 9 _ rfl (hall 9 (by decide))
          have hv10 := hV 10 _ rfl (hall 10 (by decide))
          have hv11 := hV 11 _ rfl (hall 11 (by decide))
          have hv12 := hV 12 _ rfl (hall 12 (by decide))
          have hv13 := hV 13 _ rfl (hall 13 (by decide))
          have hv14 := hV 14 _ rfl (hall 14 (by decide))
          have hv15 := hV 15 _ rfl (hall 15 (by decide))
          have hv16 := hV 16 _ rfl (hall 16 (by decide))
          have hv17 := hV 17 _ rfl (hall 17 (by decide))
          have hv18 := hV 18 _ rfl (hall 18 (by decide))
          have hv19 := hV 19 _ rfl (hall 19 (by decide))
          have hv20 := hV 20 _ rfl (hall 20 (by decide))
          have hv21 := hV 21 _ rfl (hall 21 (by decide))
          have hv22 := hV 22 _ rfl (hall 22 (by decide))
          have hv23 := hV 23 _ rfl (hall 23 (by decide))
          have hv24 := hV 24 _ rfl (hall 24 (by decide))
          have hv25 := hV 25 _ rfl (hall 25 (by decide))
          have hv26 := hV 26 _ rfl (hall 26 (by decide))
          have hv27 := hV 27 _ rfl (hall 27 (by decide))
          have hv28 := hV 28 _ rfl (hall 28 (by decide))
          have hv29 := hV 29 _ rfl (hall 29 (by decide))
          have hv30 := hV 30 _ rfl (hall 30 (by decide))
          have hv31 := hV 31 _ rfl (hall 31 (by decide))
          have hv32 := hV 32 _ rfl (hall 32 (by decide))
          clear hV hall
          rw [putSel_fr]
          simp only [tells, List.map_cons, List.map_nil, setAll, List.set_cons_succ, List.set_cons_zero, hv0, hv1, hv2, hv3, hv4, hv5, hv6, hv7, hv8, hv9, hv10, hv11, hv12, hv13, hv14, hv15, hv16, hv17, hv18, hv19, hv20, hv21, hv22, hv23, hv24, hv25, hv26, hv27, hv28, hv29, hv30, hv31, hv32]
          clear hv0 hv1 hv2 hv3 hv4 hv5 hv6 hv7 hv8 hv9 hv10 hv11 hv12 hv13 hv14 hv15 hv16 hv17 hv18 hv19 hv20 hv21 hv22 hv23 hv24 hv25 hv26 hv27 hv28 hv29 hv30 hv31 hv32
          generalize w_ = w902901 at HS ⊢
          refine fr_at (l' := (.slice (some ad) es.length c :: undef :: uq11.1 :: .int .i64 (j : Int) :: .pointer (some ⟨g34, 0, none⟩) :: .slice (some ad) es.length c :: .int .i64 (es.length : Int) :: .int .i64 (j : Int) :: .bool (decide ((j : Int) < (es.length : Int))) :: .int .i64 (j : Int) :: .pointer (some ((ad).add (j * 2))) :: .agg ([.int .i64 x.1, .int .i64 x.2] : List Value).toArray :: .pointer (some ⟨g34, 0, none⟩) :: .int .i64 x.1 :: .bool false :: .bool false :: .pointer (some ⟨g34, 0, none⟩) :: .int .i64 x.1 :: .bool false :: .bool false :: .bool false :: .pointer (some ⟨g34, 1, none⟩) :: .int .i64 x.2 :: .bool false :: .bool false :: .bool false :: .pointer (some ⟨g34, 1, none⟩) :: .int .i64 x.2 :: .bool false :: .bool false :: .bool false :: .int .i64 (j : Int) :: .bool true :: .bool true :: .pointer (some ⟨g34, 0, none⟩) :: .int .i64 x.1 :: .slice (some ad) es.length c :: .int .i64 (j : Int) :: .int .i64 ((j - 1 : Nat) : Int) :: .pointer (some ((ad).add ((j - 1 : Nat) * 2))) :: .pointer (some (((ad).add ((j - 1 : Nat) * 2)).add 0)) :: .int .i64 ((es.getD (j - 1) (0, 0)).1) :: .bool true :: .bool true :: .bool true :: uq17.2.2.2.2 :: U8l1 ([]))) rfl ?_
          refine hK39 _ _ ?_
          refine c_true rfl ?_
          refine wp_seq_k (fun K902902 hK902903 => ?_)
          refine c_region (fun ops902905 hops902904 => ?_)
          clear hops902904
          refine p_run (l' := _) _ (x_assign (.bool false) rfl rfl) rfl ?_
          refine wpList_nil ?_
          refine hK902903 _ _ ?_
          refine wp_ret ?_
          try simp only [Exit.inBlock, Exit.then]
          refine c_ret (.bool false) (r_tmp rfl rfl) ?_
          rw [rise_no hlt he]
          exact ⟨rfl, HS.belowOf⟩
      · have hlt : j = es.length := by have := of_decide_eq_false hc27; omega
        subst hlt
        refine wp_exit ?_
        refine hK6 _ _ ?_
        refine wp_seq_k (fun K902906 hK902907 => ?_)
        rcases (by omega : (¬ 1 ≤ es.length) ∨ (1 ≤ es.length ∧ ¬ es.length ≤ 6) ∨ (1 ≤ es.length ∧ es.length ≤ 6)) with h1 | ⟨h1, h6⟩ | ⟨h1, h6⟩
        · skip
          refine c_region (fun ops902909 hops902908 => ?_)
          refine p_run (l' := _) _ (x_move (.slice A es.length c) rfl rfl) rfl ?_
          refine p_run (l' := _) _ (x_len rfl rfl Try.underlying50) rfl ?_
          refine p_run (l' := _) _ (x_cmp (k := .i64) (m := (es.length : Int)) (n := 1) .geq false rfl rfl rfl (decide_eq_false (by omega)) rfl) rfl ?_
          refine p_run (l' := _) _ (x_move (.bool false) rfl rfl) rfl ?_
          refine p_off (l' := _) (by rw [hops902908]; rfl) rfl ?_
          refine p_off (l' := _) (by rw [hops902908]; rfl) rfl ?_
          refine p_off (l' := _) (by rw [hops902908]; rfl) rfl ?_
          refine p_run (l' := _) _ (x_pick false (undef) (.bool false) (.bool false) rfl rfl rfl rfl rfl) rfl ?_
          refine p_run (l' := _) _ (x_assign (.bool false) rfl rfl) rfl ?_
          clear hops902908
          refine wpList_nil ?_
          refine fr_at (l' := (.slice A es.length c :: undef :: .bool false :: uq11.2.1 :: uq11.2.2.1 :: .slice A es.length c :: .int .i64 (es.length : Int) :: .int .i64 (es.length : Int) :: .bool (decide ((es.length : Int) < (es.length : Int))) :: uq11.2.2.2.2.1 :: uq11.2.2.2.2.2 :: uq12.1 :: uq12.2.1 :: uq12.2.2.1 :: uq12.2.2.2.1 :: uq12.2.2.2.2.1 :: uq12.2.2.2.2.2 :: uq13.1 :: uq13.2.1 :: uq13.2.2.1 :: uq13.2.2.2.1 :: uq13.2.2.2.2.1 :: uq13.2.2.2.2.2 :: uq14.1 :: uq14.2.1 :: uq14.2.2.1 :: uq14.2.2.2.1 :: uq14.2.2.2.2.1 :: uq14.2.2.2.2.2 :: uq15.1 :: uq15.2.1 :: uq15.2.2.1 :: uq15.2.2.2.1 :: uq15.2.2.2.2.1 :: uq15.2.2.2.2.2 :: uq16.1 :: uq16.2.1 :: uq16.2.2.1 :: uq16.2.2.2.1 :: uq16.2.2.2.2.1 :: uq16.2.2.2.2.2 :: uq17.1 :: uq17.2.1 :: uq17.2.2.1 :: uq17.2.2.2.1 :: uq17.2.2.2.2 :: .slice A es.length c :: .int .i64 (es.length : Int) :: .bool false :: .bool false :: undef :: undef :: undef :: .bool false :: [])) rfl ?_
          refine hK902907 _ _ ?_
          refine wp_ret ?_
          try simp only [Exit.inBlock, Exit.then]
          refine c_ret (.bool false) (r_tmp rfl rfl) ?_
          have hb : riseB es = false := by unfold riseB; rw [hI.2]; simp <;> omega
          rw [hb]
          exact ⟨rfl, HS.belowOf⟩
        · skip
          refine c_region (fun ops902911 hops902910 => ?_)
          refine p_run (l' := _) _ (x_move (.slice A es.length c) rfl rfl) rfl ?_
          refine p_run (l' := _) _ (x_len rfl rfl Try.underlying50) rfl ?_
          refine p_run (l' := _) _ (x_cmp (k := .i64) (m := (es.length : Int)) (n := 1) .geq true rfl rfl rfl (decide_eq_true (by omega)) rfl) rfl ?_
          refine p_run (l' := _) _ (x_move (.bool true) rfl rfl) rfl ?_
          refine p_on rfl (by rw [hops902910]; rfl) ?_
          refine p_run (l' := _) _ (x_move (.slice A es.length c) rfl rfl) rfl ?_
          refine p_on rfl (by rw [hops902910]; rfl) ?_
          refine p_run (l' := _) _ (x_len rfl rfl Try.underlying50) rfl ?_
          refine p_on rfl (by rw [hops902910]; rfl) ?_
          refine p_run (l' := _) _ (x_cmp (k := .i64) (m := (es.length : Int)) (n := 6) .leq false rfl rfl rfl (decide_eq_false (by omega)) rfl) rfl ?_
          refine p_run (l' := _) _ (x_pick true (.bool false) (.bool false) (.bool false) rfl rfl rfl rfl rfl) rfl ?_
          refine p_run (l' := _) _ (x_assign (.bool false) rfl rfl) rfl ?_
          clear hops902910
          refine wpList_nil ?_
          refine hK902907 _ _ ?_
          refine wp_ret ?_
          try simp only [Exit.inBlock, Exit.then]
          refine c_ret (.bool false) (r_tmp rfl rfl) ?_
          have hb : riseB es = false := by unfold riseB; rw [hI.2]; simp <;> omega
          rw [hb]
          exact ⟨rfl, HS.belowOf⟩
        · skip
          refine c_region (fun ops902913 hops902912 => ?_)
          refine p_run (l' := _) _ (x_move (.slice A es.length c) rfl rfl) rfl ?_
          refine p_run (l' := _) _ (x_len rfl rfl Try.underlying50) rfl ?_
          refine p_run (l' := (.slice A es.length c :: undef :: uq11.1 :: uq11.2.1 :: uq11.2.2.1 :: .slice A es.length c :: .int .i64 (es.length : Int) :: .int .i64 (es.length : Int) :: .bool (decide ((es.length : Int) < (es.length : Int))) :: uq11.2.2.2.2.1 :: uq11.2.2.2.2.2 :: uq12.1 :: uq12.2.1 :: uq12.2.2.1 :: uq12.2.2.2.1 :: uq12.2.2.2.2.1 :: uq12.2.2.2.2.2 :: uq13.1 :: uq13.2.1 :: uq13.2.2.1 :: uq13.2.2.2.1 :: uq13.2.2.2.2.1 :: uq13.2.2.2.2.2 :: uq14.1 :: uq14.2.1 :: uq14.2.2.1 :: uq14.2.2.2.1 :: uq14.2.2.2.2.1 :: uq14.2.2.2.2.2 :: uq15.1 :: uq15.2.1 :: uq15.2.2.1 :: uq15.2.2.2.1 :: uq15.2.2.2.2.1 :: uq15.2.2.2.2.2 :: uq16.1 :: uq16.2.1 :: uq16.2.2.1 :: uq16.2.2.2.1 :: uq16.2.2.2.2.1 :: uq16.2.2.2.2.2 :: uq17.1 :: uq17.2.1 :: uq17.2.2.1 :: uq17.2.2.2.1 :: uq17.2.2.2.2 :: .slice A es.length c :: .int .i64 (es.length : Int) :: .bool true :: U4l1 (undef :: []))) _ (x_cmp (k := .i64) (m := (es.length : Int)) (n := 1) .geq true rfl rfl rfl (decide_eq_true (by omega)) rfl) rfl ?_
          refine p_run (l' := _) _ (x_move (.bool true) rfl rfl) rfl ?_
          refine p_on rfl (by rw [hops902912]; rfl) ?_
          refine p_run (l' := _) _ (x_move (.slice A es.length c) rfl rfl) rfl ?_
          refine p_on rfl (by rw [hops902912]; rfl) ?_
          refine p_run (l' := _) _ (x_len rfl rfl Try.underlying50) rfl ?_
          refine p_on rfl (by rw [hops902912]; rfl) ?_
          refine p_run (l' := _) _ (x_cmp (k := .i64) (m := (es.length : Int)) (n := 6) .leq true rfl rfl rfl (decide_eq_true (by omega)) rfl) rfl ?_
          refine p_run (l' := _) _ (x_pick true (.bool true) (.bool false) (.bool true) rfl rfl rfl rfl rfl) rfl ?_
          refine p_run (l' := _) _ (x_assign (.bool true) rfl rfl) rfl ?_
          clear hops902912
          refine wpList_nil ?_
          refine hK902907 _ _ ?_
          refine wp_ret ?_
          try simp only [Exit.inBlock, Exit.then]
          refine c_ret (.bool true) (r_tmp rfl rfl) ?_
          have hb : riseB es = true := by unfold riseB; rw [hI.2]; simp <;> omega
          rw [hb]
          exact ⟨rfl, HS.belowOf⟩
end Go.Proofs.Ytiokdpnhaemciaa
