/- record's reader; Read. -/
import Derived.Test.YtkiiangookibnaaZRecordTellsRk2
import Derived.Test.YtkiiangookibnaaZRecordTellsShRT
import Derived.Test.YtkiiangookibnaaZRecordTellsByWO
set_option linter.unusedVariables false
set_option linter.unusedSimpArgs false
namespace Go.Proofs.Ytkiiangookibnaa
open Go.RowKit Go.Proofs.YtkiiangookibnaaW.PrintWords Go.Proofs.YtkiiangookibnaaW.PrintLast
abbrev U4k3 (l : List Value) : List Value := undef :: undef :: undef :: undef :: l
abbrev U8k3 (l : List Value) : List Value := U4k3 (U4k3 l)
abbrev U16k3 (l : List Value) : List Value := U8k3 (U8k3 l)
abbrev U32k3 (l : List Value) : List Value := U16k3 (U16k3 l)
abbrev U64k3 (l : List Value) : List Value := U32k3 (U32k3 l)
set_option maxRecDepth 10000 in
set_option maxHeartbeats 1000000 in
theorem beq_any (w : World) (A : Option Addr) (c : Nat) (xs : List UInt8) (hr : Rd w A xs) (B : Option Addr) (d : Nat) (ys : List UInt8) (hr2 : Rd w B ys) (hl : xs.length ≤ 100000) (hl2 : ys.length ≤ 100000) : Calls Try.prog 30 #[.slice A xs.length c, .slice B ys.length d] w fun e w' => e = .returned (.bool (decide (xs = ys))) ∧ Below w.heap.size w w' := by
  have HS := St.empty w
  by_cases hln : xs.length = ys.length
  · skip
    refine c_enter Try.func30 rfl 26 rfl (.slice A xs.length c :: .slice B ys.length d :: U16k3 (U8k3 ([]))) rfl ?_
    refine wp_seq_k (fun K1 hK2 => ?_)
    refine c_region (fun ops4 hops3 => ?_)
    clear hops3
    refine p_run _ (x_assign (.bool false) rfl rfl) rfl ?_
    refine wpList_nil ?_
    refine hK2 _ _ ?_
    refine wp_seq_k (fun K5 hK6 => ?_)
    refine wp_seq_k (fun K7 hK8 => ?_)
    refine c_region (fun ops10 hops9 => ?_)
    clear hops9
    refine p_run _ (x_move (.slice A xs.length c) rfl rfl) rfl ?_
    refine p_run _ (x_len rfl rfl Try.underlying22) rfl ?_
    refine p_run _ (x_move (.slice B ys.length d) rfl rfl) rfl ?_
    refine p_run _ (x_len rfl rfl Try.underlying22) rfl ?_
    refine p_run _ (x_cmp (k := .i64) (m := (xs.length : Int)) (n := (ys.length : Int)) .neq false rfl rfl rfl (by rw [hln]; simp [cmpB]) rfl) rfl ?_
    refine wpList_nil ?_
    refine fr_at (l' := (.slice A xs.length c :: .slice B ys.length d :: undef :: undef :: .bool false :: undef :: .slice A xs.length c :: .int .i64 (xs.length : Int) :: .slice B ys.length d :: .int .i64 (ys.length : Int) :: .bool false :: U8k3 (U4k3 (undef :: undef :: undef :: [])))) rfl ?_
    refine hK8 _ _ ?_
    refine c_false rfl ?_
    refine wp_skip ?_
    refine hK6 _ _ ?_
    refine wp_seq_k (fun K11 hK12 => ?_)
    refine wp_seq_k (fun K13 hK14 => ?_)
    refine c_region (fun ops16 hops15 => ?_)
    clear hops15
    refine p_run _ (x_move (.slice A xs.length c) rfl rfl) rfl ?_
    refine p_run _ (x_len rfl rfl Try.underlying22) rfl ?_
    refine p_run _ (x_move (.int .i64 0) rfl rfl) rfl ?_
    refine wpList_nil ?_
    refine fr_at (l' := (.slice A xs.length c :: .slice B ys.length d :: undef :: undef :: .bool false :: undef :: .slice A xs.length c :: .int .i64 (xs.length : Int) :: .slice B ys.length d :: .int .i64 (ys.length : Int) :: .bool false :: .slice A xs.length c :: .int .i64 (xs.length : Int) :: .int .i64 0 :: U8k3 (U4k3 ([])))) rfl ?_
    refine hK14 _ _ ?_
    refine wp_block ?_
    refine c_loop (ι := Nat) (fun i_ a_ w_ => match i_ with | j => ∃ (u4 : Value) (u5 : Value) (u14 : Value) (u15 : Value) (u16 : Value) (u17 : Value) (u18 : Value) (u19 : Value) (u20 : Value) (u21 : Value) (u22 : Value) (u23 : Value) (u24 : Value) (u25 : Value), a_ = fr (.slice A xs.length c :: .slice B ys.length d :: undef :: undef :: u4 :: u5 :: .slice A xs.length c :: .int .i64 (xs.length : Int) :: .slice B ys.length d :: .int .i64 (ys.length : Int) :: .bool false :: .slice A xs.length c :: .int .i64 (xs.length : Int) :: .int .i64 (j : Int) :: u14 :: u15 :: u16 :: u17 :: u18 :: u19 :: u20 :: u21 :: u22 :: u23 :: u24 :: u25 :: []) ∧ St w (fun _ => False) w_ ([]) ∧ (j ≤ xs.length ∧ xs.take j = ys.take j)) (fun i_ => match i_ with | j => xs.length - j) 0 ?_ ?_
    · exact ⟨_, _, _, _, _, _, _, _, _, _, _, _, _, _, rfl, HS, ⟨Nat.zero_le _, rfl⟩⟩
    · clear HS
      rintro j a_ w19 ⟨u4, u5, u14, u15, u16, u17, u18, u19, u20, u21, u22, u23, u24, u25, rfl, HS, hI⟩ J17 hJ18
      have hjl := hI.1
      refine wp_seq_k (fun K20 hK21 => ?_)
      refine c_region (fun ops23 hops22 => ?_)
      clear hops22
      refine p_run _ (x_cmp (k := .i64) (m := (j : Int)) (n := (xs.length : Int)) .lss (decide ((j : Int) < (xs.length : Int))) rfl rfl rfl rfl rfl) rfl ?_
      refine wpList_nil ?_
      refine hK21 _ _ ?_
      refine wp_seq_k (fun K24 hK25 => ?_)
      refine c_cond (t := decide ((j : Int) < (xs.length : Int))) rfl (fun hc26 => ?_) (fun hc26 => ?_)
      · have hlt : j < xs.length := by have := of_decide_eq_true hc26; omega
        obtain ⟨ad, hA_⟩ := rd_some hr (by omega)
        obtain ⟨ae, hB_⟩ := rd_some hr2 (by omega)
        subst hA_ hB_
        have hly : j < ys.length := by omega
        refine wp_skip ?_
        refine hK25 _ _ ?_
        refine wp_seq_k (fun K27 hK28 => ?_)
        refine wp_block ?_
        refine wp_seq_k (fun K29 hK30 => ?_)
        refine c_region (fun ops32 hops31 => ?_)
        clear hops31
        refine p_run _ (x_move (.int .i64 (j : Int)) rfl rfl) rfl ?_
        refine p_run _ (x_assign (.int .i64 (j : Int)) rfl rfl) rfl ?_
        refine wpList_nil ?_
        refine hK30 _ _ ?_
        refine wp_seq_k (fun K33 hK34 => ?_)
        by_cases hxy : xs[j] = ys[j]
        · skip
          refine free_frame (n := 9) (T := _) [0, 0, 3, 7, 0, 0, 48, 112, 255] [(0, 16), (1, 17), (2, 18), (3, 19), (4, 20), (5, 21), (6, 22), (7, 23), (8, 24)] (fun bq_ vq_ w_ => qv ((fun i_ => match i_ with | 0 => some (.slice (some ad) xs.length c) | 1 => some (.int .i64 (j : Int)) | 2 => some (.pointer (some ((ad).add (j * 1)))) | 3 => some (.int .u8 (bv xs[j])) | 4 => some (.slice (some ae) ys.length d) | 5 => some (.int .i64 (j : Int)) | 6 => some (.pointer (some ((ae).add (j * 1)))) | 7 => some (.int .u8 (bv ys[j])) | 8 => some (.bool false) | _ => none) : Nat → Option Value) bq_ vq_ ∧ (St w (fun _ => False) w_ ([]))) (by kernel_rfl) rfl rfl (by kernel_rfl) (by kernel_rfl) rfl (by kernel_rfl) (by kernel_rfl) ⟨qv_none, HS.draw⟩ ?_ ?_
          · clear HS
            intro i_ hi_ bq_ vq_ a_ w_ hG hb_ hon hoff hfr hel hval
            obtain ⟨hV, hE⟩ := hG
            have hi_ := List.mem_range.1 hi_
            obtain ⟨l_, rfl⟩ := hfr
            have hv_ := fun (j t : Nat) (v : Value) (h1 : (j, t) ∈ [(0, 16), (1, 17), (2, 18), (3, 19), (4, 20), (5, 21), (6, 22), (7, 23), (8, 24)]) h2 h3 => (hval (j, t) h1 h3).trans (congrArg some (hV j v h2 h3))
            have hcs : i_ = 0 ∨ i_ = 1 ∨ i_ = 2 ∨ i_ = 3 ∨ i_ = 4 ∨ i_ = 5 ∨ i_ = 6 ∨ i_ = 7 ∨ i_ = 8 := by omega
            rcases hcs with rfl | rfl | rfl | rfl | rfl | rfl | rfl | rfl | rfl
            · have e0 : evl l_ (.tmp 0) = .slice (some ad) xs.length c := evl_of ((hel 0 (by decide)).trans rfl)
              exact ⟨_, rfl, fun K_ hK_ => q_op _ (x_move (.slice (some ad) xs.length c) rfl e0) (hK_ _ _ ⟨qv_up hV (fun _ h => Option.some.inj h), hE⟩)⟩
            · have e5 : evl l_ (.tmp 5) = .int .i64 (j : Int) := evl_of ((hel 5 (by decide)).trans rfl)
              exact ⟨_, rfl, fun K_ hK_ => q_op _ (x_move (.int .i64 (j : Int)) rfl e5) (hK_ _ _ ⟨qv_up hV (fun _ h => Option.some.inj h), hE⟩)⟩
            · have e16 : evl l_ (.tmp 16) = .slice (some ad) xs.length c := evl_of (hv_ 0 16 _ (by decide) rfl (hon 0 (by decide)))
              have e17 : evl l_ (.tmp 17) = .int .i64 (j : Int) := evl_of (hv_ 1 17 _ (by decide) rfl (hon 1 (by decide)))
              exact ⟨_, rfl, fun K_ hK_ => q_op _ (x_index (A := ad) (j := j * 1) (sz := 1) rfl e16 e17 Try.underlying22 (by kernel_rfl) (by omega) rfl) (hK_ _ _ ⟨qv_up hV (fun _ h => Option.some.inj h), hE⟩)⟩
            · have hE0 := hE
              have HS := hE0
              have e18 : evl l_ (.tmp 18) = .pointer (some ((ad).add (j * 1))) := evl_of (hv_ 2 18 _ (by decide) rfl (hon 2 (by decide)))
              exact ⟨_, rfl, fun K_ hK_ => q_op _ (x_load (.int .u8 (bv xs[j])) rfl e18 (rd_cell (Rd.below hr HS.belowOf) j hlt) (by rfl)) (hK_ _ _ ⟨qv_up hV (fun _ h => Option.some.inj h), hE⟩)⟩
            · have e1 : evl l_ (.tmp 1) = .slice (some ae) ys.length d := evl_of ((hel 1 (by decide)).trans rfl)
              exact ⟨_, rfl, fun K_ hK_ => q_op _ (x_move (.slice (some ae) ys.length d) rfl e1) (hK_ _ _ ⟨qv_up hV (fun _ h => Option.some.inj h), hE⟩)⟩
            · have e5 : evl l_ (.tmp 5) = .int .i64 (j : Int) := evl_of ((hel 5 (by decide)).trans rfl)
              exact ⟨_, rfl, fun K_ hK_ => q_op _ (x_move (.int .i64 (j : Int)) rfl e5) (hK_ _ _ ⟨qv_up hV (fun _ h => Option.some.inj h), hE⟩)⟩
            · have e20 : evl l_ (.tmp 20) = .slice (some ae) ys.length d := evl_of (hv_ 4 20 _ (by decide) rfl (hon 4 (by decide)))
              have e21 : evl l_ (.tmp 21) = .int .i64 (j : Int) := evl_of (hv_ 5 21 _ (by decide) rfl (hon 5 (by decide)))
              exact ⟨_, rfl, fun K_ hK_ => q_op _ (x_index (A := ae) (j := j * 1) (sz := 1) rfl e20 e21 Try.underlying22 (by kernel_rfl) (by omega) rfl) (hK_ _ _ ⟨qv_up hV (fun _ h => Option.some.inj h), hE⟩)⟩
            · have hE0 := hE
              have HS := hE0
              have e22 : evl l_ (.tmp 22) = .pointer (some ((ae).add (j * 1))) := evl_of (hv_ 6 22 _ (by decide) rfl (hon 6 (by decide)))
              exact ⟨_, rfl, fun K_ hK_ => q_op _ (x_load (.int .u8 (bv ys[j])) rfl e22 (rd_cell (Rd.below hr2 HS.belowOf) j hly) (by rfl)) (hK_ _ _ ⟨qv_up hV (fun _ h => Option.some.inj h), hE⟩)⟩
            · have e19 : evl l_ (.tmp 19) = .int .u8 (bv xs[j]) := evl_of (hv_ 3 19 _ (by decide) rfl (hon 3 (by decide)))
              have e23 : evl l_ (.tmp 23) = .int .u8 (bv ys[j]) := evl_of (hv_ 7 23 _ (by decide) rfl (hon 7 (by decide)))
              exact ⟨_, rfl, fun K_ hK_ => q_op _ (x_cmp (k := .u8) (m := (bv xs[j])) (n := (bv ys[j])) .neq false rfl e19 e23 (by rw [hxy]; simp [cmpB]) rfl) (hK_ _ _ ⟨qv_up hV (fun _ h => Option.some.inj h), hE⟩)⟩
          intro bq_ vq_ w_ hall hG
          obtain ⟨hV, hE⟩ := hG
          clear HS
          have HS := hE
          have hv0 := hV 0 _ rfl (hall 0 (by decide))
          have hv1 := hV 1 _ rfl (hall 1 (by decide))
          have hv2 := hV 2 _ rfl (hall 2 (by decide))
          have hv3 := hV 3 _ rfl (hall 3 (by decide))
          have hv4 := hV 4 _ rfl (hall 4 (by decide))
          have hv5 := hV 5 _ rfl (hall 5 (by decide))
          have hv6 := hV 6 _ rfl (hall 6 (by decide))
          have hv7 := hV 7 _ rfl (hall 7 (by decide))
          have hv8 := hV 8 _ rfl (hall 8 (by decide))
          clear hV hall
          rw [putSel_fr]
          simp only [tells, List.map_cons, List.map_nil, setAll, List.set_cons_succ, List.set_cons_zero, hv0, hv1, hv2, hv3, hv4, hv5, hv6, hv7, hv8]
          clear hv0 hv1 hv2 hv3 hv4 hv5 hv6 hv7 hv8
          generalize w_ = w900701 at HS ⊢
          refine fr_at (l' := (.slice (some ad) xs.length c :: .slice (some ae) ys.length d :: undef :: undef :: u4 :: .int .i64 (j : Int) :: .slice (some ad) xs.length c :: .int .i64 (xs.length : Int) :: .slice (some ae) ys.length d :: .int .i64 (ys.length : Int) :: .bool false :: .slice (some ad) xs.length c :: .int .i64 (xs.length : Int) :: .int .i64 (j : Int) :: .bool (decide ((j : Int) < (xs.length : Int))) :: .int .i64 (j : Int) :: .slice (some ad) xs.length c :: .int .i64 (j : Int) :: .pointer (some ((ad).add (j * 1))) :: .int .u8 (bv xs[j]) :: .slice (some ae) ys.length d :: .int .i64 (j : Int) :: .pointer (some ((ae).add (j * 1))) :: .int .u8 (bv ys[j]) :: .bool false :: u25 :: [])) rfl ?_
          refine hK34 _ _ ?_
          refine c_false rfl ?_
          refine wp_skip ?_
          refine hK28 _ _ ?_
          refine c_region (fun ops900703 hops900702 => ?_)
          clear hops900702
          refine p_run _ (x_arith (k := .i64) (m := (j : Int)) (n := 1) .add (((j + 1 : Nat) : Int)) rfl rfl rfl (show IntKind.i64.wrap ((j : Int) + 1) = ((j + 1 : Nat) : Int) from ((wr64' (by omega)).trans (by omega))) rfl) rfl ?_
          refine p_run _ (x_move (.int .i64 ((j + 1 : Nat) : Int)) rfl rfl) rfl ?_
          refine wpList_nil ?_
          refine fr_at (l' := (.slice (some ad) xs.length c :: .slice (some ae) ys.length d :: undef :: undef :: u4 :: .int .i64 (j : Int) :: .slice (some ad) xs.length c :: .int .i64 (xs.length : Int) :: .slice (some ae) ys.length d :: .int .i64 (ys.length : Int) :: .bool false :: .slice (some ad) xs.length c :: .int .i64 (xs.length : Int) :: .int .i64 ((j + 1 : Nat) : Int) :: .bool (decide ((j : Int) < (xs.length : Int))) :: .int .i64 (j : Int) :: .slice (some ad) xs.length c :: .int .i64 (j : Int) :: .pointer (some ((ad).add (j * 1))) :: .int .u8 (bv xs[j]) :: .slice (some ae) ys.length d :: .int .i64 (j : Int) :: .pointer (some ((ae).add (j * 1))) :: .int .u8 (bv ys[j]) :: .bool false :: .int .i64 ((j + 1 : Nat) : Int) :: [])) rfl ?_
          refine hJ18 (j + 1) _ _ ?_ ?_
          · show xs.length - (j + 1) < xs.length - j; omega
          · exact ⟨_, _, _, _, _, _, _, _, _, _, _, _, _, _, rfl, HS, ⟨by omega, by rw [List.take_succ_eq_append_getElem hlt, List.take_succ_eq_append_getElem hly, hxy, hI.2]⟩⟩
        · skip
          refine free_frame (n := 9) (T := _) [0, 0, 3, 7, 0, 0, 48, 112, 255] [(0, 16), (1, 17), (2, 18), (3, 19), (4, 20), (5, 21), (6, 22), (7, 23), (8, 24)] (fun bq_ vq_ w_ => qv ((fun i_ => match i_ with | 0 => some (.slice (some ad) xs.length c) | 1 => some (.int .i64 (j : Int)) | 2 => some (.pointer (some ((ad).add (j * 1)))) | 3 => some (.int .u8 (bv xs[j])) | 4 => some (.slice (some ae) ys.length d) | 5 => some (.int .i64 (j : Int)) | 6 => some (.pointer (some ((ae).add (j * 1)))) | 7 => some (.int .u8 (bv ys[j])) | 8 => some (.bool true) | _ => none) : Nat → Option Value) bq_ vq_ ∧ (St w (fun _ => False) w_ ([]))) (by kernel_rfl) rfl rfl (by kernel_rfl) (by kernel_rfl) rfl (by kernel_rfl) (by kernel_rfl) ⟨qv_none, HS.draw⟩ ?_ ?_
          · clear HS
            intro i_ hi_ bq_ vq_ a_ w_ hG hb_ hon hoff hfr hel hval
            obtain ⟨hV, hE⟩ := hG
            have hi_ := List.mem_range.1 hi_
            obtain ⟨l_, rfl⟩ := hfr
            have hv_ := fun (j t : Nat) (v : Value) (h1 : (j, t) ∈ [(0, 16), (1, 17), (2, 18), (3, 19), (4, 20), (5, 21), (6, 22), (7, 23), (8, 24)]) h2 h3 => (hval (j, t) h1 h3).trans (congrArg some (hV j v h2 h3))
            have hcs : i_ = 0 ∨ i_ = 1 ∨ i_ = 2 ∨ i_ = 3 ∨ i_ = 4 ∨ i_ = 5 ∨ i_ = 6 ∨ i_ = 7 ∨ i_ = 8 := by omega
            rcases hcs with rfl | rfl | rfl | rfl | rfl | rfl | rfl | rfl | rfl
            · have e0 : evl l_ (.tmp 0) = .slice (some ad) xs.length c := evl_of ((hel 0 (by decide)).trans rfl)
              exact ⟨_, rfl, fun K_ hK_ => q_op _ (x_move (.slice (some ad) xs.length c) rfl e0) (hK_ _ _ ⟨qv_up hV (fun _ h => Option.some.inj h), hE⟩)⟩
            · have e5 : evl l_ (.tmp 5) = .int .i64 (j : Int) := evl_of ((hel 5 (by decide)).trans rfl)
              exact ⟨_, rfl, fun K_ hK_ => q_op _ (x_move (.int .i64 (j : Int)) rfl e5) (hK_ _ _ ⟨qv_up hV (fun _ h => Option.some.inj h), hE⟩)⟩
            · have e16 : evl l_ (.tmp 16) = .slice (some ad) xs.length c := evl_of (hv_ 0 16 _ (by decide) rfl (hon 0 (by decide)))
              have e17 : evl l_ (.tmp 17) = .int .i64 (j : Int) := evl_of (hv_ 1 17 _ (by decide) rfl (hon 1 (by decide)))
              exact ⟨_, rfl, fun K_ hK_ => q_op _ (x_index (A := ad) (j := j * 1) (sz := 1) rfl e16 e17 Try.underlying22 (by kernel_rfl) (by omega) rfl) (hK_ _ _ ⟨qv_up hV (fun _ h => Option.some.inj h), hE⟩)⟩
            · have hE0 := hE
              have HS := hE0
              have e18 : evl l_ (.tmp 18) = .pointer (some ((ad).add (j * 1))) := evl_of (hv_ 2 18 _ (by decide) rfl (hon 2 (by decide)))
              exact ⟨_, rfl, fun K_ hK_ => q_op _ (x_load (.int .u8 (bv xs[j])) rfl e18 (rd_cell (Rd.below hr HS.belowOf) j hlt) (by rfl)) (hK_ _ _ ⟨qv_up hV (fun _ h => Option.some.inj h), hE⟩)⟩
            · have e1 : evl l_ (.tmp 1) = .slice (some ae) ys.length d := evl_of ((hel 1 (by decide)).trans rfl)
              exact ⟨_, rfl, fun K_ hK_ => q_op _ (x_move (.slice (some ae) ys.length d) rfl e1) (hK_ _ _ ⟨qv_up hV (fun _ h => Option.some.inj h), hE⟩)⟩
            · have e5 : evl l_ (.tmp 5) = .int .i64 (j : Int) := evl_of ((hel 5 (by decide)).trans rfl)
              exact ⟨_, rfl, fun K_ hK_ => q_op _ (x_move (.int .i64 (j : Int)) rfl e5) (hK_ _ _ ⟨qv_up hV (fun _ h => Option.some.inj h), hE⟩)⟩
            · have e20 : evl l_ (.tmp 20) = .slice (some ae) ys.length d := evl_of (hv_ 4 20 _ (by decide) rfl (hon 4 (by decide)))
              have e21 : evl l_ (.tmp 21) = .int .i64 (j : Int) := evl_of (hv_ 5 21 _ (by decide) rfl (hon 5 (by decide)))
              exact ⟨_, rfl, fun K_ hK_ => q_op _ (x_index (A := ae) (j := j * 1) (sz := 1) rfl e20 e21 Try.underlying22 (by kernel_rfl) (by omega) rfl) (hK_ _ _ ⟨qv_up hV (fun _ h => Option.some.inj h), hE⟩)⟩
            · have hE0 := hE
              have HS := hE0
              have e22 : evl l_ (.tmp 22) = .pointer (some ((ae).add (j * 1))) := evl_of (hv_ 6 22 _ (by decide) rfl (hon 6 (by decide)))
              exact ⟨_, rfl, fun K_ hK_ => q_op _ (x_load (.int .u8 (bv ys[j])) rfl e22 (rd_cell (Rd.below hr2 HS.belowOf) j hly) (by rfl)) (hK_ _ _ ⟨qv_up hV (fun _ h => Option.some.inj h), hE⟩)⟩
            · have e19 : evl l_ (.tmp 19) = .int .u8 (bv xs[j]) := evl_of (hv_ 3 19 _ (by decide) rfl (hon 3 (by decide)))
              have e23 : evl l_ (.tmp 23) = .int .u8 (bv ys[j]) := evl_of (hv_ 7 23 _ (by decide) rfl (hon 7 (by decide)))
              exact ⟨_, rfl, fun K_ hK_ => q_op _ (x_cmp (k := .u8) (m := (bv xs[j])) (n := (bv ys[j])) .neq true rfl e19 e23 (by have := fun h => hxy (bv_inj h); simpa [cmpB] using this) rfl) (hK_ _ _ ⟨qv_up hV (fun _ h => Option.some.inj h), hE⟩)⟩
          intro bq_ vq_ w_ hall hG
          obtain ⟨hV, hE⟩ := hG
          clear HS
          have HS := hE
          have hv0 := hV 0 _ rfl (hall 0 (by decide))
          have hv1 := hV 1 _ rfl (hall 1 (by decide))
          have hv2 := hV 2 _ rfl (hall 2 (by decide))
          have hv3 := hV 3 _ rfl (hall 3 (by decide))
          have hv4 := hV 4 _ rfl (hall 4 (by decide))
          have hv5 := hV 5 _ rfl (hall 5 (by decide))
          have hv6 := hV 6 _ rfl (hall 6 (by decide))
          have hv7 := hV 7 _ rfl (hall 7 (by decide))
          have hv8 := hV 8 _ rfl (hall 8 (by decide))
          clear hV hall
          rw [putSel_fr]
          simp only [tells, List.map_cons, List.map_nil, setAll, List.set_cons_succ, List.set_cons_zero, hv0, hv1, hv2, hv3, hv4, hv5, hv6, hv7, hv8]
          clear hv0 hv1 hv2 hv3 hv4 hv5 hv6 hv7 hv8
          generalize w_ = w900701 at HS ⊢
          refine fr_at (l' := (.slice (some ad) xs.length c :: .slice (some ae) ys.length d :: undef :: undef :: u4 :: .int .i64 (j : Int) :: .slice (some ad) xs.length c :: .int .i64 (xs.length : Int) :: .slice (some ae) ys.length d :: .int .i64 (ys.length : Int) :: .bool false :: .slice (some ad) xs.length c :: .int .i64 (xs.length : Int) :: .int .i64 (j : Int) :: .bool (decide ((j : Int) < (xs.length : Int))) :: .int .i64 (j : Int) :: .slice (some ad) xs.length c :: .int .i64 (j : Int) :: .pointer (some ((ad).add (j * 1))) :: .int .u8 (bv xs[j]) :: .slice (some ae) ys.length d :: .int .i64 (j : Int) :: .pointer (some ((ae).add (j * 1))) :: .int .u8 (bv ys[j]) :: .bool true :: u25 :: [])) rfl ?_
          refine hK34 _ _ ?_
          refine c_true rfl ?_
          refine wp_seq_k (fun K900702 hK900703 => ?_)
          refine c_region (fun ops900705 hops900704 => ?_)
          clear hops900704
          refine p_run _ (x_assign (.bool false) rfl rfl) rfl ?_
          refine wpList_nil ?_
          refine hK900703 _ _ ?_
          refine wp_ret ?_
          try simp only [Exit.inBlock, Exit.then]
          refine c_ret (.bool false) (r_tmp rfl rfl) ?_
          have hne : decide (xs = ys) = false := decide_eq_false (fun h => hxy (by subst h; rfl))
          rw [hne]
          exact ⟨rfl, HS.belowOf⟩
      · have hlt : j = xs.length := by have := of_decide_eq_false hc26; omega
        subst hlt
        refine wp_exit ?_
        refine hK12 _ _ ?_
        refine wp_seq_k (fun K900706 hK900707 => ?_)
        refine c_region (fun ops900709 hops900708 => ?_)
        clear hops900708
        refine p_run _ (x_assign (.bool true) rfl rfl) rfl ?_
        refine wpList_nil ?_
        refine hK900707 _ _ ?_
        refine wp_ret ?_
        try simp only [Exit.inBlock, Exit.then]
        refine c_ret (.bool true) (r_tmp rfl rfl) ?_
        have hne : decide (xs = ys) = true := decide_eq_true (by have h := hI.2; rw [List.take_length, hln, List.take_length] at h; exact h)
        rw [hne]
        exact ⟨rfl, HS.belowOf⟩
  · skip
    refine c_enter Try.func30 rfl 26 rfl (.slice A xs.length c :: .slice B ys.length d :: U16k3 (U8k3 ([]))) rfl ?_
    refine wp_seq_k (fun K1 hK2 => ?_)
    refine c_region (fun ops4 hops3 => ?_)
    clear hops3
    refine p_run _ (x_assign (.bool false) rfl rfl) rfl ?_
    refine wpList_nil ?_
    refine hK2 _ _ ?_
    refine wp_seq_k (fun K5 hK6 => ?_)
    refine wp_seq_k (fun K7 hK8 => ?_)
    refine c_region (fun ops10 hops9 => ?_)
    clear hops9
    refine p_run _ (x_move (.slice A xs.length c) rfl rfl) rfl ?_
    refine p_run _ (x_len rfl rfl Try.underlying22) rfl ?_
    refine p_run _ (x_move (.slice B ys.length d) rfl rfl) rfl ?_
    refine p_run _ (x_len rfl rfl Try.underlying22) rfl ?_
    refine p_run _ (x_cmp (k := .i64) (m := (xs.length : Int)) (n := (ys.length : Int)) .neq true rfl rfl rfl (by simp [cmpB]; omega) rfl) rfl ?_
    refine wpList_nil ?_
    refine fr_at (l' := (.slice A xs.length c :: .slice B ys.length d :: undef :: undef :: .bool false :: undef :: .slice A xs.length c :: .int .i64 (xs.length : Int) :: .slice B ys.length d :: .int .i64 (ys.length : Int) :: .bool true :: U8k3 (U4k3 (undef :: undef :: undef :: [])))) rfl ?_
    refine hK8 _ _ ?_
    refine c_true rfl ?_
    refine wp_seq_k (fun K11 hK12 => ?_)
    refine c_region (fun ops14 hops13 => ?_)
    clear hops13
    refine p_run _ (x_assign (.bool false) rfl rfl) rfl ?_
    refine wpList_nil ?_
    refine hK12 _ _ ?_
    refine wp_ret ?_
    try simp only [Exit.inBlock, Exit.then]
    refine c_ret (.bool false) (r_tmp rfl rfl) ?_
    have hne : decide (xs = ys) = false := decide_eq_false (fun h => hln (by rw [h]))
    rw [hne]
    exact ⟨rfl, HS.belowOf⟩
section
variable {w0 W : World} {F : Nat → Prop} {L : List Res} {base R : Nat} {s : Rs}
set_option maxRecDepth 10000 in
theorem klabel_any (HS : St w0 F W (rdr base R s :: L)) : Calls Try.prog 29 #[.agg ([.pointer (some ⟨R, 0, none⟩)] : List Value).toArray] W fun e w' => e = .returned (.agg #[.int .u32 (rn 4 s), .int .u32 (rn 4 (rs 4 s))]) ∧ St w0 F w' (rdr base R (rs 4 (rs 4 s)) :: L) := by
  skip
  · skip
    refine c_enter Try.func29 rfl 14 rfl (.agg ([.pointer (some ⟨R, 0, none⟩)] : List Value).toArray :: U8k3 (U4k3 (undef :: []))) rfl ?_
    refine wp_seq_k (fun K1 hK2 => ?_)
    refine c_region (fun ops4 hops3 => ?_)
    clear hops3
    refine St.wBox HS (cs := [.pointer (some ⟨R, 0, none⟩)]) (.agg ([.pointer (some ⟨R, 0, none⟩)] : List Value).toArray) rfl rfl ?_
    clear HS
    intro g5 w6 hg7 HS
    refine St.wAlloc HS (cs := [.int .u32 0, .int .u32 0]) (.agg [.int .u32 0, .int .u32 0].toArray) (by kernel_rfl) rfl ?_
    clear HS
    intro g8 w9 hg10 HS
    refine wpList_nil ?_
    refine hK2 _ _ ?_
    refine wp_seq_k (fun K11 hK12 => ?_)
    refine c_region (fun ops14 hops13 => ?_)
    clear hops13
    refine p_run _ (x_field (j := 0) _ _ rfl rfl Try.underlying65 rfl (by rfl) rfl) rfl ?_
    refine p_run _ (x_load (.pointer (some ⟨R, 0, none⟩)) rfl rfl (bkCell (HS.get (.tail _ (.head _))) 0 _ rfl) (by rfl)) rfl ?_
    refine w_call [.pointer (some ⟨R, 0, none⟩), .int .i64 4] Try.func27 (by kernel_rfl) (by rfl) rfl ?_
    replace HS := (HS.front 2 rfl)
    refine (St.num HS 4).mono ?_
    clear HS
    rintro e w15 ⟨rfl, HS⟩
    refine ⟨_, rfl, ?_⟩
    refine p_run _ (x_conv (k := .u64) (m := (rn 4 s)) .u32 ((rn 4 s)) rfl (by rw [Try.underlying30]; rfl) Try.underlying26 rfl (wu32 (bd4 _))) rfl ?_
    refine p_run (l' := (.agg ([.pointer (some ⟨R, 0, none⟩)] : List Value).toArray :: .pointer (some ⟨g5, 0, none⟩) :: .pointer (some ⟨g8, 0, none⟩) :: .int .u32 (rn 4 s) :: .pointer (some ⟨g5, 0, none⟩) :: .pointer (some ⟨R, 0, none⟩) :: .int .u64 (rn 4 s) :: .int .u32 (rn 4 s) :: U4k3 (undef :: undef :: []))) _ (x_assign (.int .u32 (rn 4 s)) rfl rfl) rfl ?_
    refine wpList_nil ?_
    refine hK12 _ _ ?_
    refine wp_seq_k (fun K16 hK17 => ?_)
    refine c_region (fun ops19 hops18 => ?_)
    clear hops18
    refine p_run _ (x_move (.int .u32 (rn 4 s)) rfl rfl) rfl ?_
    refine p_run _ (x_field (j := 0) _ _ rfl rfl Try.underlying65 rfl (by rfl) rfl) rfl ?_
    refine p_run _ (x_load (.pointer (some ⟨R, 0, none⟩)) rfl rfl (bkCell (HS.get (.tail _ (.tail _ (.head _)))) 0 _ rfl) (by rfl)) rfl ?_
    refine w_call [.pointer (some ⟨R, 0, none⟩), .int .i64 4] Try.func27 (by kernel_rfl) (by rfl) rfl ?_
    refine (St.num HS 4).mono ?_
    clear HS
    rintro e w20 ⟨rfl, HS⟩
    refine ⟨_, rfl, ?_⟩
    refine p_run _ (x_conv (k := .u64) (m := (rn 4 (rs 4 s))) .u32 ((rn 4 (rs 4 s))) rfl (by rw [Try.underlying30]; rfl) Try.underlying26 rfl (wu32 (bd4 _))) rfl ?_
    refine p_run _ (x_build [.int .u32 (rn 4 s), .int .u32 (rn 4 (rs 4 s))] rfl (by kernel_rfl)) rfl ?_
    refine St.stores (cs' := [.int .u32 (rn 4 s), .int .u32 (rn 4 (rs 4 s))]) (HS.front 1 rfl) [.int .u32 (rn 4 s), .int .u32 (rn 4 (rs 4 s))] 2 rfl rfl (by rfl) (by kernel_rfl) rfl (by simp) rfl ?_
    clear HS
    intro w21 HS
    refine wpList_nil ?_
    refine fr_at (l' := (.agg ([.pointer (some ⟨R, 0, none⟩)] : List Value).toArray :: .pointer (some ⟨g5, 0, none⟩) :: .pointer (some ⟨g8, 0, none⟩) :: .int .u32 (rn 4 s) :: .pointer (some ⟨g5, 0, none⟩) :: .pointer (some ⟨R, 0, none⟩) :: .int .u64 (rn 4 s) :: .int .u32 (rn 4 s) :: .int .u32 (rn 4 s) :: .pointer (some ⟨g5, 0, none⟩) :: .pointer (some ⟨R, 0, none⟩) :: .int .u64 (rn 4 (rs 4 s)) :: .int .u32 (rn 4 (rs 4 s)) :: .agg ([.int .u32 (rn 4 s), .int .u32 (rn 4 (rs 4 s))] : List Value).toArray :: [])) rfl ?_
    refine hK17 _ _ ?_
    refine wp_ret ?_
    try simp only [Exit.inBlock, Exit.then]
    refine c_ret (.agg ([.int .u32 (rn 4 s), .int .u32 (rn 4 (rs 4 s))] : List Value).toArray) (r_c rfl rfl (run_loadVar_aggn (by rfl) [.int .u32 (rn 4 s), .int .u32 (rn 4 (rs 4 s))] 2 (by kernel_rfl) rfl (bkCells (HS.get (.head _)) 0 _ (whole _)))) ?_
    exact ⟨rfl, (HS.drop.front 1 rfl).drop⟩
set_option maxRecDepth 10000 in
theorem kpage_any (HS : St w0 F W (rdr base R s :: L)) : Calls Try.prog 28 #[.agg ([.pointer (some ⟨R, 0, none⟩)] : List Value).toArray] W fun e w' => e = .returned (.int .i64 (rn 1 s - 1)) ∧ St w0 F w' (rdr base R (rs 1 s) :: L) := by
  skip
  · skip
    refine c_enter Try.func28 rfl 8 rfl [.agg ([.pointer (some ⟨R, 0, none⟩)] : List Value).toArray, undef, undef, undef, undef, undef, undef, undef] rfl ?_
    refine wp_seq_k (fun K1 hK2 => ?_)
    refine c_region (fun ops4 hops3 => ?_)
    clear hops3
    refine St.wBox HS (cs := [.pointer (some ⟨R, 0, none⟩)]) (.agg ([.pointer (some ⟨R, 0, none⟩)] : List Value).toArray) rfl rfl ?_
    clear HS
    intro g5 w6 hg7 HS
    refine p_run _ (x_assign (.int .i64 0) rfl rfl) rfl ?_
    refine wpList_nil ?_
    refine hK2 _ _ ?_
    refine wp_seq_k (fun K8 hK9 => ?_)
    refine c_region (fun ops11 hops10 => ?_)
    clear hops10
    refine p_run _ (x_field (j := 0) _ _ rfl rfl Try.underlying65 rfl (by rfl) rfl) rfl ?_
    refine p_run _ (x_load (.pointer (some ⟨R, 0, none⟩)) rfl rfl (bkCell (HS.get (.head _)) 0 _ rfl) (by rfl)) rfl ?_
    refine w_call [.pointer (some ⟨R, 0, none⟩), .int .i64 1] Try.func27 (by kernel_rfl) (by rfl) rfl ?_
    replace HS := (HS.front 1 rfl)
    refine (St.num HS 1).mono ?_
    clear HS
    rintro e w12 ⟨rfl, HS⟩
    refine ⟨_, rfl, ?_⟩
    refine p_run _ (x_conv (k := .u64) (m := (rn 1 s)) .i64 ((rn 1 s)) rfl (by rw [Try.underlying30]; rfl) Try.underlying3 rfl (wr64' (by have := bd1 s; omega))) rfl ?_
    refine p_run (l' := [.agg ([.pointer (some ⟨R, 0, none⟩)] : List Value).toArray, .pointer (some ⟨g5, 0, none⟩), .int .i64 0, .pointer (some ⟨g5, 0, none⟩), .pointer (some ⟨R, 0, none⟩), .int .u64 (rn 1 s), .int .i64 (rn 1 s), .int .i64 (rn 1 s - 1)]) _ (x_arith (k := .i64) (m := (rn 1 s)) (n := 1) .sub ((rn 1 s - 1)) rfl rfl rfl (show IntKind.i64.wrap ((rn 1 s) - 1) = (rn 1 s - 1) from (wr64' (by have := bd1 s; omega))) rfl) rfl ?_
    refine p_run _ (x_assign (.int .i64 (rn 1 s - 1)) rfl rfl) rfl ?_
    refine wpList_nil ?_
    refine hK9 _ _ ?_
    refine wp_ret ?_
    try simp only [Exit.inBlock, Exit.then]
    refine c_ret (.int .i64 (rn 1 s - 1)) (r_tmp rfl rfl) ?_
    exact ⟨rfl, (HS.front 1 rfl).drop⟩
end
theorem rk_of {b : List UInt8} {z : Bool} (h : ((bE (rdR b) != 0) || !(decide (bB (rdR b) = b))) = z) : rkOk b = !z := by
  unfold rkOk
  rcases hm : rcOk (rdR b) with _ | _
  · rw [(bb_no hm).2] at h; subst h; rfl
  · rw [(bb_yes hm).2, (bb_yes hm).1] at h
    subst h
    rw [Bool.true_and]
    simp
set_option maxRecDepth 10000 in
set_option maxHeartbeats 8000000 in
theorem rread_any (w : World) (A : Option Addr) (c : Nat) (b : List UInt8) (hr : Sl w A c b) (hl : b.length ≤ 100000) : Calls Try.prog 9 #[.slice A b.length c] w fun e w' => ∃ A1 c1, e = .returned (.tuple #[rcV (rkM b) A1 c1, .int .i64 (rkE b)]) ∧ St w (fun _ => False) w' [row kSn rfl 48 (.slice A1 (rkM b).sn.length c1) (rkM b).sn] := by
  have HS := St.empty w
  · skip
    refine c_enter Try.func9 rfl 106 rfl (.slice A b.length c :: U64k3 (U32k3 (U8k3 (undef :: [])))) rfl ?_
    refine wp_seq_k (fun K1 hK2 => ?_)
    refine c_region (fun ops4 hops3 => ?_)
    clear hops3
    refine St.wAlloc HS (cs := (.int .u32 0 :: .bool false :: .int .u32 0 :: .int .u32 0 :: .int .i64 0 :: .int .u32 0 :: .int .u32 0 :: .slice none 0 0 :: .int .u64 0 :: .int .u32 0 :: .int .u32 0 :: .int .u32 0 :: .int .u32 0 :: .int .i64 0 :: .int .i64 0 :: .int .i64 0 :: [])) (.agg (.int .u32 0 :: .bool false :: .int .u32 0 :: .int .u32 0 :: .int .i64 0 :: .int .u32 0 :: .int .u32 0 :: .slice none 0 0 :: .int .u64 0 :: .int .u32 0 :: .int .u32 0 :: .int .u32 0 :: .int .u32 0 :: .int .i64 0 :: .int .i64 0 :: .int .i64 0 :: []).toArray) (by kernel_rfl) rfl ?_
    clear HS
    intro g5 w6 hg7 HS
    refine p_run _ (x_assign (.int .i64 0) rfl rfl) rfl ?_
    refine wpList_nil ?_
    refine hK2 _ _ ?_
    refine wp_seq_k (fun K8 hK9 => ?_)
    refine c_region (fun ops11 hops10 => ?_)
    clear hops10
    refine p_run _ (x_move (.slice A b.length c) rfl rfl) rfl ?_
    refine w_call [.slice A b.length c] Try.func26 (by kernel_rfl) (by rfl) rfl ?_
    refine (St.newR0 HS _ c _ b rfl (hr.below HS.belowOf).rd hr.cap (by omega)).mono ?_
    clear HS
    rintro e w14 ⟨g12, g13, rfl, HS⟩
    refine ⟨_, rfl, ?_⟩
    refine p_run _ (x_build [.pointer (some ⟨g13, 0, none⟩)] rfl (by kernel_rfl)) rfl ?_
    refine St.wAlloc HS (cs := [.pointer none]) (.agg [.pointer none].toArray) (by kernel_rfl) rfl ?_
    clear HS
    intro g15 w16 hg17 HS
    refine St.stores (cs' := [.pointer (some ⟨g13, 0, none⟩)]) HS [.pointer (some ⟨g13, 0, none⟩)] 1 rfl rfl (by rfl) (by kernel_rfl) rfl (by simp) rfl ?_
    clear HS
    intro w18 HS
    refine wpList_nil ?_
    refine fr_at (l' := (.slice A b.length c :: undef :: .pointer (some ⟨g5, 0, none⟩) :: .int .i64 0 :: .pointer (some ⟨g15, 0, none⟩) :: U4k3 (.slice A b.length c :: .pointer (some ⟨g13, 0, none⟩) :: .agg ([.pointer (some ⟨g13, 0, none⟩)] : List Value).toArray :: U64k3 (U16k3 (U8k3 (U4k3 (undef :: undef :: []))))))) rfl ?_
    refine hK9 _ _ ?_
    refine wp_seq_k (fun K19 hK20 => ?_)
    refine c_region (fun ops22 hops21 => ?_)
    clear hops21
    refine St.wAlloc HS (cs := (.int .u32 0 :: .bool false :: .int .u32 0 :: .int .u32 0 :: .int .i64 0 :: .int .u32 0 :: .int .u32 0 :: .slice none 0 0 :: .int .u64 0 :: .int .u32 0 :: .int .u32 0 :: .int .u32 0 :: .int .u32 0 :: .int .i64 0 :: .int .i64 0 :: .int .i64 0 :: [])) (.agg (.int .u32 0 :: .bool false :: .int .u32 0 :: .int .u32 0 :: .int .i64 0 :: .int .u32 0 :: .int .u32 0 :: .slice none 0 0 :: .int .u64 0 :: .int .u32 0 :: .int .u32 0 :: .int .u32 0 :: .int .u32 0 :: .int .i64 0 :: .int .i64 0 :: .int .i64 0 :: []).toArray) (by kernel_rfl) rfl ?_
    clear HS
    intro g23 w24 hg25 HS
    refine wpList_nil ?_
    refine hK20 _ _ ?_
    refine wp_seq_k (fun K26 hK27 => ?_)
    refine c_region (fun ops29 hops28 => ?_)
    clear hops28
    refine p_run _ (x_field (j := 0) _ _ rfl rfl Try.underlying65 rfl (by rfl) rfl) rfl ?_
    refine p_run _ (x_load (.pointer (some ⟨g13, 0, none⟩)) rfl rfl (bkCell (HS.get (.tail _ (.head _))) 0 _ rfl) (by rfl)) rfl ?_
    refine w_call [.pointer (some ⟨g13, 0, none⟩), .int .i64 4] Try.func27 (by kernel_rfl) (by rfl) rfl ?_
    replace HS := (HS.front 2 rfl)
    refine (St.num HS 4).mono ?_
    clear HS
    rintro e w30 ⟨rfl, HS⟩
    replace HS : St _ _ _ (rdr g12 g13 (k1 b) :: _) := HS
    refine ⟨_, rfl, ?_⟩
    refine p_run _ (x_conv (k := .u64) (m := (rn 4 (b, false))) .u32 ((rn 4 (b, false))) rfl (by rw [Try.underlying30]; rfl) Try.underlying26 rfl (wu32 (bd4 _))) rfl ?_
    refine p_run _ (x_field (j := 0) _ _ rfl rfl Try.underlying34 rfl (by rfl) rfl) rfl ?_
    refine St.store (cs' := (.int .u32 (rn 4 (b, false)) :: .bool false :: .int .u32 0 :: .int .u32 0 :: .int .i64 0 :: .int .u32 0 :: .int .u32 0 :: .slice none 0 0 :: .int .u64 0 :: .int .u32 0 :: .int .u32 0 :: .int .u32 0 :: .int .u32 0 :: .int .i64 0 :: .int .i64 0 :: .int .i64 0 :: [])) (HS.front 1 rfl) (.int .u32 (rn 4 (b, false))) rfl rfl rfl (by kernel_rfl) (by rfl) rfl ?_
    clear HS
    intro w31 HS
    refine wpList_nil ?_
    refine fr_at (l' := (.slice A b.length c :: undef :: .pointer (some ⟨g5, 0, none⟩) :: .int .i64 0 :: .pointer (some ⟨g15, 0, none⟩) :: .pointer (some ⟨g23, 0, none⟩) :: undef :: undef :: undef :: .slice A b.length c :: .pointer (some ⟨g13, 0, none⟩) :: .agg ([.pointer (some ⟨g13, 0, none⟩)] : List Value).toArray :: .pointer (some ⟨g15, 0, none⟩) :: .pointer (some ⟨g13, 0, none⟩) :: .int .u64 (rn 4 (b, false)) :: .int .u32 (rn 4 (b, false)) :: .pointer (some ⟨g23, 0, none⟩) :: U64k3 (U16k3 (U8k3 (undef :: []))))) rfl ?_
    refine hK27 _ _ ?_
    refine wp_seq_k (fun K32 hK33 => ?_)
    refine c_region (fun ops35 hops34 => ?_)
    clear hops34
    refine p_run _ (x_field (j := 0) _ _ rfl rfl Try.underlying65 rfl (by rfl) rfl) rfl ?_
    refine p_run _ (x_load (.pointer (some ⟨g13, 0, none⟩)) rfl rfl (bkCell (HS.get (.tail _ (.tail _ (.head _)))) 0 _ rfl) (by rfl)) rfl ?_
    refine w_call [.pointer (some ⟨g13, 0, none⟩), .int .i64 1] Try.func27 (by kernel_rfl) (by rfl) rfl ?_
    replace HS := (HS.front 1 rfl)
    refine (St.num HS 1).mono ?_
    clear HS
    rintro e w36 ⟨rfl, HS⟩
    replace HS : St _ _ _ (rdr g12 g13 (k2 b) :: _) := HS
    refine ⟨_, rfl, ?_⟩
    refine p_run _ (x_cmp (k := .u64) (m := (rn 1 (k1 b))) (n := 1) .eql ((rn 1 (k1 b)) == 1) rfl rfl rfl rfl rfl) rfl ?_
    refine p_run _ (x_field (j := 1) _ _ rfl rfl Try.underlying34 rfl (by rfl) rfl) rfl ?_
    refine St.store (cs' := (.int .u32 (rn 4 (b, false)) :: .bool ((rn 1 (k1 b)) == 1) :: .int .u32 0 :: .int .u32 0 :: .int .i64 0 :: .int .u32 0 :: .int .u32 0 :: .slice none 0 0 :: .int .u64 0 :: .int .u32 0 :: .int .u32 0 :: .int .u32 0 :: .int .u32 0 :: .int .i64 0 :: .int .i64 0 :: .int .i64 0 :: [])) (HS.front 1 rfl) (.bool ((rn 1 (k1 b)) == 1)) rfl rfl rfl (by kernel_rfl) (by rfl) rfl ?_
    clear HS
    intro w37 HS
    refine wpList_nil ?_
    refine fr_at (l' := (.slice A b.length c :: undef :: .pointer (some ⟨g5, 0, none⟩) :: .int .i64 0 :: .pointer (some ⟨g15, 0, none⟩) :: .pointer (some ⟨g23, 0, none⟩) :: undef :: undef :: undef :: .slice A b.length c :: .pointer (some ⟨g13, 0, none⟩) :: .agg ([.pointer (some ⟨g13, 0, none⟩)] : List Value).toArray :: .pointer (some ⟨g15, 0, none⟩) :: .pointer (some ⟨g13, 0, none⟩) :: .int .u64 (rn 4 (b, false)) :: .int .u32 (rn 4 (b, false)) :: .pointer (some ⟨g23, 0, none⟩) :: .pointer (some ⟨g15, 0, none⟩) :: .pointer (some ⟨g13, 0, none⟩) :: .int .u64 (rn 1 (k1 b)) :: .bool ((rn 1 (k1 b)) == 1) :: .pointer (some ⟨g23, 1, none⟩) :: U64k3 (U16k3 (U4k3 ([]))))) rfl ?_
    refine hK33 _ _ ?_
    refine wp_seq_k (fun K38 hK39 => ?_)
    refine c_region (fun ops41 hops40 => ?_)
    clear hops40
    refine p_run _ (x_field (j := 0) _ _ rfl rfl Try.underlying65 rfl (by rfl) rfl) rfl ?_
    refine p_run _ (x_load (.pointer (some ⟨g13, 0, none⟩)) rfl rfl (bkCell (HS.get (.tail _ (.tail _ (.head _)))) 0 _ rfl) (by rfl)) rfl ?_
    refine w_call [.pointer (some ⟨g13, 0, none⟩), .int .i64 4] Try.func27 (by kernel_rfl) (by rfl) rfl ?_
    replace HS := (HS.front 1 rfl)
    refine (St.num HS 4).mono ?_
    clear HS
    rintro e w42 ⟨rfl, HS⟩
    replace HS : St _ _ _ (rdr g12 g13 (k3 b) :: _) := HS
    refine ⟨_, rfl, ?_⟩
    refine p_run _ (x_conv (k := .u64) (m := (rn 4 (k2 b))) .u32 ((rn 4 (k2 b))) rfl (by rw [Try.underlying30]; rfl) Try.underlying26 rfl (wu32 (bd4 _))) rfl ?_
    refine p_run _ (x_field (j := 2) _ _ rfl rfl Try.underlying34 rfl (by rfl) rfl) rfl ?_
    refine St.store (cs' := (.int .u32 (rn 4 (b, false)) :: .bool ((rn 1 (k1 b)) == 1) :: .int .u32 (rn 4 (k2 b)) :: .int .u32 0 :: .int .i64 0 :: .int .u32 0 :: .int .u32 0 :: .slice none 0 0 :: .int .u64 0 :: .int .u32 0 :: .int .u32 0 :: .int .u32 0 :: .int .u32 0 :: .int .i64 0 :: .int .i64 0 :: .int .i64 0 :: [])) (HS.front 1 rfl) (.int .u32 (rn 4 (k2 b))) rfl rfl rfl (by kernel_rfl) (by rfl) rfl ?_
    clear HS
    intro w43 HS
    refine wpList_nil ?_
    obtain ⟨qz44, hqz44⟩ : ∃ q_ : V8, q_ = ⟨.pointer (some ⟨g23, 0, none⟩), .pointer (some ⟨g15, 0, none⟩), .pointer (some ⟨g13, 0, none⟩), .int .u64 (rn 1 (k1 b)), .bool ((rn 1 (k1 b)) == 1), .pointer (some ⟨g23, 1, none⟩), .pointer (some ⟨g15, 0, none⟩), .pointer (some ⟨g13, 0, none⟩)⟩ := ⟨_, rfl⟩
    refine fr_at (l' := (.slice A b.length c :: undef :: .pointer (some ⟨g5, 0, none⟩) :: .int .i64 0 :: .pointer (some ⟨g15, 0, none⟩) :: .pointer (some ⟨g23, 0, none⟩) :: undef :: undef :: undef :: .slice A b.length c :: .pointer (some ⟨g13, 0, none⟩) :: .agg ([.pointer (some ⟨g13, 0, none⟩)] : List Value).toArray :: .pointer (some ⟨g15, 0, none⟩) :: .pointer (some ⟨g13, 0, none⟩) :: .int .u64 (rn 4 (b, false)) :: .int .u32 (rn 4 (b, false)) :: V8.l qz44 (.int .u64 (rn 4 (k2 b)) :: .int .u32 (rn 4 (k2 b)) :: .pointer (some ⟨g23, 2, none⟩) :: U64k3 (U8k3 (U4k3 (undef :: undef :: undef :: [])))))) (by subst hqz44; rfl) ?_
    refine hK39 _ _ ?_
    refine wp_seq_k (fun K45 hK46 => ?_)
    refine c_region (fun ops48 hops47 => ?_)
    clear hops47
    refine p_run _ (x_field (j := 0) _ _ rfl rfl Try.underlying65 rfl (by rfl) rfl) rfl ?_
    refine p_run _ (x_load (.pointer (some ⟨g13, 0, none⟩)) rfl rfl (bkCell (HS.get (.tail _ (.tail _ (.head _)))) 0 _ rfl) (by rfl)) rfl ?_
    refine w_call [.pointer (some ⟨g13, 0, none⟩), .int .i64 4] Try.func27 (by kernel_rfl) (by rfl) rfl ?_
    replace HS := (HS.front 1 rfl)
    refine (St.num HS 4).mono ?_
    clear HS
    rintro e w49 ⟨rfl, HS⟩
    replace HS : St _ _ _ (rdr g12 g13 (k4 b) :: _) := HS
    refine ⟨_, rfl, ?_⟩
    refine p_run _ (x_conv (k := .u64) (m := (rn 4 (k3 b))) .u32 ((rn 4 (k3 b))) rfl (by rw [Try.underlying30]; rfl) Try.underlying26 rfl (wu32 (bd4 _))) rfl ?_
    refine p_run _ (x_field (j := 3) _ _ rfl rfl Try.underlying34 rfl (by rfl) rfl) rfl ?_
    refine St.store (cs' := (.int .u32 (rn 4 (b, false)) :: .bool ((rn 1 (k1 b)) == 1) :: .int .u32 (rn 4 (k2 b)) :: .int .u32 (rn 4 (k3 b)) :: .int .i64 0 :: .int .u32 0 :: .int .u32 0 :: .slice none 0 0 :: .int .u64 0 :: .int .u32 0 :: .int .u32 0 :: .int .u32 0 :: .int .u32 0 :: .int .i64 0 :: .int .i64 0 :: .int .i64 0 :: [])) (HS.front 1 rfl) (.int .u32 (rn 4 (k3 b))) rfl rfl rfl (by kernel_rfl) (by rfl) rfl ?_
    clear HS
    intro w50 HS
    refine wpList_nil ?_
    obtain ⟨qz51, hqz51⟩ : ∃ q_ : V8, q_ = ⟨.int .u64 (rn 4 (k2 b)), .int .u32 (rn 4 (k2 b)), .pointer (some ⟨g23, 2, none⟩), .pointer (some ⟨g15, 0, none⟩), .pointer (some ⟨g13, 0, none⟩), .int .u64 (rn 4 (k3 b)), .int .u32 (rn 4 (k3 b)), .pointer (some ⟨g23, 3, none⟩)⟩ := ⟨_, rfl⟩
    refine fr_at (l' := (.slice A b.length c :: undef :: .pointer (some ⟨g5, 0, none⟩) :: .int .i64 0 :: .pointer (some ⟨g15, 0, none⟩) :: .pointer (some ⟨g23, 0, none⟩) :: undef :: undef :: undef :: .slice A b.length c :: .pointer (some ⟨g13, 0, none⟩) :: .agg ([.pointer (some ⟨g13, 0, none⟩)] : List Value).toArray :: .pointer (some ⟨g15, 0, none⟩) :: .pointer (some ⟨g13, 0, none⟩) :: .int .u64 (rn 4 (b, false)) :: .int .u32 (rn 4 (b, false)) :: V8.l qz44 (V8.l qz51 (U64k3 (U8k3 (undef :: undef :: [])))))) (by subst hqz51; rfl) ?_
    refine hK46 _ _ ?_
    refine wp_seq_k (fun K52 hK53 => ?_)
    refine c_region (fun ops55 hops54 => ?_)
    clear hops54
    refine p_run _ (x_loads [.pointer (some ⟨g13, 0, none⟩)] 1 rfl rfl (bkCells (HS.get (.tail _ (.tail _ (.head _)))) 0 _ rfl) (by rfl) (by kernel_rfl) rfl) rfl ?_
    refine w_call [.agg ([.pointer (some ⟨g13, 0, none⟩)] : List Value).toArray] Try.func28 (by kernel_rfl) (by rfl) rfl ?_
    replace HS := (HS.front 1 rfl)
    refine (kpage_any HS).mono ?_
    clear HS
    rintro e w56 ⟨rfl, HS⟩
    replace HS : St _ _ _ (rdr g12 g13 (k5 b) :: _) := HS
    refine ⟨_, rfl, ?_⟩
    refine p_run _ (x_field (j := 4) _ _ rfl rfl Try.underlying34 rfl (by rfl) rfl) rfl ?_
    refine St.store (cs' := (.int .u32 (rn 4 (b, false)) :: .bool ((rn 1 (k1 b)) == 1) :: .int .u32 (rn 4 (k2 b)) :: .int .u32 (rn 4 (k3 b)) :: .int .i64 (rn 1 (k4 b) - 1) :: .int .u32 0 :: .int .u32 0 :: .slice none 0 0 :: .int .u64 0 :: .int .u32 0 :: .int .u32 0 :: .int .u32 0 :: .int .u32 0 :: .int .i64 0 :: .int .i64 0 :: .int .i64 0 :: [])) (HS.front 1 rfl) (.int .i64 (rn 1 (k4 b) - 1)) rfl rfl rfl (by kernel_rfl) (by rfl) rfl ?_
    clear HS
    intro w57 HS
    refine wpList_nil ?_
    refine hK53 _ _ ?_
    refine wp_seq_k (fun K58 hK59 => ?_)
    refine c_region (fun ops61 hops60 => ?_)
    clear hops60
    refine p_run _ (x_loads [.pointer (some ⟨g13, 0, none⟩)] 1 rfl rfl (bkCells (HS.get (.tail _ (.tail _ (.head _)))) 0 _ rfl) (by rfl) (by kernel_rfl) rfl) rfl ?_
    refine w_call [.agg ([.pointer (some ⟨g13, 0, none⟩)] : List Value).toArray] Try.func29 (by kernel_rfl) (by rfl) rfl ?_
    replace HS := (HS.front 1 rfl)
    refine (klabel_any HS).mono ?_
    clear HS
    rintro e w62 ⟨rfl, HS⟩
    replace HS : St _ _ _ (rdr g12 g13 (k7 b) :: _) := HS
    refine ⟨_, rfl, ?_⟩
    refine p_run _ (x_field (j := 5) _ _ rfl rfl Try.underlying34 rfl (by rfl) rfl) rfl ?_
    refine St.stores (cs' := (.int .u32 (rn 4 (b, false)) :: .bool ((rn 1 (k1 b)) == 1) :: .int .u32 (rn 4 (k2 b)) :: .int .u32 (rn 4 (k3 b)) :: .int .i64 (rn 1 (k4 b) - 1) :: .int .u32 (rn 4 (k5 b)) :: .int .u32 (rn 4 (k6 b)) :: .slice none 0 0 :: .int .u64 0 :: .int .u32 0 :: .int .u32 0 :: .int .u32 0 :: .int .u32 0 :: .int .i64 0 :: .int .i64 0 :: .int .i64 0 :: [])) (HS.front 1 rfl) [.int .u32 (rn 4 (k5 b)), .int .u32 (rn 4 (k6 b))] 2 rfl rfl (by rfl) (by kernel_rfl) rfl (by simp) rfl ?_
    clear HS
    intro w63 HS
    refine wpList_nil ?_
    refine fr_at (l' := (.slice A b.length c :: undef :: .pointer (some ⟨g5, 0, none⟩) :: .int .i64 0 :: .pointer (some ⟨g15, 0, none⟩) :: .pointer (some ⟨g23, 0, none⟩) :: undef :: undef :: undef :: .slice A b.length c :: .pointer (some ⟨g13, 0, none⟩) :: .agg ([.pointer (some ⟨g13, 0, none⟩)] : List Value).toArray :: .pointer (some ⟨g15, 0, none⟩) :: .pointer (some ⟨g13, 0, none⟩) :: .int .u64 (rn 4 (b, false)) :: .int .u32 (rn 4 (b, false)) :: V8.l qz44 (V8.l qz51 (.agg ([.pointer (some ⟨g13, 0, none⟩)] : List Value).toArray :: .int .i64 (rn 1 (k4 b) - 1) :: .pointer (some ⟨g23, 4, none⟩) :: .agg ([.pointer (some ⟨g13, 0, none⟩)] : List Value).toArray :: .agg ([.int .u32 (rn 4 (k5 b)), .int .u32 (rn 4 (k6 b))] : List Value).toArray :: .pointer (some ⟨g23, 5, none⟩) :: U64k3 (U4k3 ([])))))) rfl ?_
    refine hK59 _ _ ?_
    refine wp_seq_k (fun K64 hK65 => ?_)
    refine wp_seq_k (fun K66 hK67 => ?_)
    refine c_region (fun ops69 hops68 => ?_)
    clear hops68
    refine p_run _ (x_field (j := 0) _ _ rfl rfl Try.underlying65 rfl (by rfl) rfl) rfl ?_
    refine p_run _ (x_load (.pointer (some ⟨g13, 0, none⟩)) rfl rfl (bkCell (HS.get (.tail _ (.tail _ (.head _)))) 0 _ rfl) (by rfl)) rfl ?_
    refine w_call [.pointer (some ⟨g13, 0, none⟩), .int .i64 1] Try.func27 (by kernel_rfl) (by rfl) rfl ?_
    replace HS := (HS.front 1 rfl)
    refine (St.num HS 1).mono ?_
    clear HS
    rintro e w70 ⟨rfl, HS⟩
    replace HS : St _ _ _ (rdr g12 g13 (k8 b) :: _) := HS
    refine ⟨_, rfl, ?_⟩
    refine p_run _ (x_min (m := (rn 1 (k7 b))) (n := 8) ((nSn b : Int)) rfl rfl rfl (mn_u 8 (bd1 _).1)) rfl ?_
    refine p_run _ (x_move (.int .u64 0) rfl rfl) rfl ?_
    refine wpList_nil ?_
    obtain ⟨qz71, hqz71⟩ : ∃ q_ : V8, q_ = ⟨.agg ([.pointer (some ⟨g13, 0, none⟩)] : List Value).toArray, .int .i64 (rn 1 (k4 b) - 1), .pointer (some ⟨g23, 4, none⟩), .agg ([.pointer (some ⟨g13, 0, none⟩)] : List Value).toArray, .agg ([.int .u32 (rn 4 (k5 b)), .int .u32 (rn 4 (k6 b))] : List Value).toArray, .pointer (some ⟨g23, 5, none⟩), .pointer (some ⟨g15, 0, none⟩), .pointer (some ⟨g13, 0, none⟩)⟩ := ⟨_, rfl⟩
    refine fr_at (l' := (.slice A b.length c :: undef :: .pointer (some ⟨g5, 0, none⟩) :: .int .i64 0 :: .pointer (some ⟨g15, 0, none⟩) :: .pointer (some ⟨g23, 0, none⟩) :: undef :: undef :: undef :: .slice A b.length c :: .pointer (some ⟨g13, 0, none⟩) :: .agg ([.pointer (some ⟨g13, 0, none⟩)] : List Value).toArray :: .pointer (some ⟨g15, 0, none⟩) :: .pointer (some ⟨g13, 0, none⟩) :: .int .u64 (rn 4 (b, false)) :: .int .u32 (rn 4 (b, false)) :: V8.l qz44 (V8.l qz51 (V8.l qz71 (.int .u64 (rn 1 (k7 b)) :: .int .u64 (nSn b : Int) :: .int .u64 0 :: U32k3 (U16k3 (U8k3 (U4k3 (undef :: undef :: undef :: []))))))))) (by subst hqz71; rfl) ?_
    refine hK67 _ _ ?_
    refine wp_block ?_
    replace HS := HS.nil kSn rfl 48
    refine c_loop (ι := Nat × Value) (fun i_ a_ w_ => match i_ with | (j, vs) => ∃ (u6 : Value) (u43 : Value) (u44 : Value) (u45 : Value) (u46 : Value) (u47 : Value) (u48 : Value) (u49 : Value) (u50 : Value) (u51 : Value) (u52 : Value) (u53 : Value) (u54 : Value) (u55 : Value) (u56 : Value) (u57 : Value) (u58 : Value) (u59 : Value) (u60 : Value) (u61 : Value), a_ = fr (.slice A b.length c :: undef :: .pointer (some ⟨g5, 0, none⟩) :: .int .i64 0 :: .pointer (some ⟨g15, 0, none⟩) :: .pointer (some ⟨g23, 0, none⟩) :: u6 :: undef :: undef :: .slice A b.length c :: .pointer (some ⟨g13, 0, none⟩) :: .agg ([.pointer (some ⟨g13, 0, none⟩)] : List Value).toArray :: .pointer (some ⟨g15, 0, none⟩) :: .pointer (some ⟨g13, 0, none⟩) :: .int .u64 (rn 4 (b, false)) :: .int .u32 (rn 4 (b, false)) :: V8.l qz44 (V8.l qz51 (V8.l qz71 (.int .u64 (rn 1 (k7 b)) :: .int .u64 (nSn b : Int) :: .int .u64 (j : Int) :: u43 :: u44 :: u45 :: u46 :: u47 :: u48 :: u49 :: u50 :: u51 :: u52 :: u53 :: u54 :: u55 :: u56 :: u57 :: u58 :: u59 :: u60 :: u61 :: U32k3 (U8k3 (U4k3 ([]))))))) ∧ St w (fun _ => False) w_ ([row kSn rfl 48 vs ((kS b j).1), blk g23 (.int .u32 (rn 4 (b, false)) :: .bool ((rn 1 (k1 b)) == 1) :: .int .u32 (rn 4 (k2 b)) :: .int .u32 (rn 4 (k3 b)) :: .int .i64 (rn 1 (k4 b) - 1) :: .int .u32 (rn 4 (k5 b)) :: .int .u32 (rn 4 (k6 b)) :: vs :: .int .u64 0 :: .int .u32 0 :: .int .u32 0 :: .int .u32 0 :: .int .u32 0 :: .int .i64 0 :: .int .i64 0 :: .int .i64 0 :: []) 34, rdr g12 g13 (kS b j).2, blk g15 [.pointer (some ⟨g13, 0, none⟩)] 65, blk g5 (.int .u32 0 :: .bool false :: .int .u32 0 :: .int .u32 0 :: .int .i64 0 :: .int .u32 0 :: .int .u32 0 :: .slice none 0 0 :: .int .u64 0 :: .int .u32 0 :: .int .u32 0 :: .int .u32 0 :: .int .u32 0 :: .int .i64 0 :: .int .i64 0 :: .int .i64 0 :: []) 34]) ∧ (j ≤ nSn b)) (fun i_ => match i_ with | (j, vs) => nSn b - j) (0, .slice none 0 0) ?_ ?_
    · exact ⟨_, _, _, _, _, _, _, _, _, _, _, _, _, _, _, _, _, _, _, _, rfl, (((((HS.front 4 rfl).front 4 rfl).front 3 rfl).front 4 rfl).front 4 rfl), Nat.zero_le _⟩
    · clear HS
      rintro ⟨j, vs⟩ a_ w74 ⟨u6, u43, u44, u45, u46, u47, u48, u49, u50, u51, u52, u53, u54, u55, u56, u57, u58, u59, u60, u61, rfl, HS, hI⟩ J72 hJ73
      have hjl := hI
      refine wp_seq_k (fun K75 hK76 => ?_)
      refine c_region (fun ops78 hops77 => ?_)
      clear hops77
      refine p_run _ (x_cmp (k := .u64) (m := (j : Int)) (n := (nSn b : Int)) .lss (decide ((j : Int) < (nSn b : Int))) rfl rfl rfl rfl rfl) rfl ?_
      refine wpList_nil ?_
      refine hK76 _ _ ?_
      refine wp_seq_k (fun K79 hK80 => ?_)
      refine c_cond (t := decide ((j : Int) < (nSn b : Int))) rfl (fun hc81 => ?_) (fun hc81 => ?_)
      · have hlt : j < nSn b := by have := of_decide_eq_true hc81; omega
        refine wp_skip ?_
        refine hK80 _ _ ?_
        refine wp_seq_k (fun K82 hK83 => ?_)
        refine wp_block ?_
        refine wp_seq_k (fun K84 hK85 => ?_)
        refine c_region (fun ops87 hops86 => ?_)
        clear hops86
        refine p_run _ (x_loads [.pointer (some ⟨g13, 0, none⟩)] 1 rfl rfl (bkCells (HS.get (.tail _ (.tail _ (.tail _ (.head _))))) 0 _ rfl) (by rfl) (by kernel_rfl) rfl) rfl ?_
        refine w_call [.agg ([.pointer (some ⟨g13, 0, none⟩)] : List Value).toArray] Try.func29 (by kernel_rfl) (by rfl) rfl ?_
        replace HS := (HS.front 2 rfl)
        refine (klabel_any HS).mono ?_
        clear HS
        rintro e w88 ⟨rfl, HS⟩
        replace HS : St _ _ _ (rdr g12 g13 (rs 4 (rs 4 (kS b j).2)) :: _) := HS
        refine ⟨_, rfl, ?_⟩
        refine p_run _ (x_build [.int .u32 (rn 4 (kS b j).2), .int .u32 (rn 4 (rs 4 (kS b j).2)), .int .i64 0, .int .u32 0] rfl (by kernel_rfl)) rfl ?_
        refine St.wAlloc HS (cs := [.int .u32 0, .int .u32 0, .int .i64 0, .int .u32 0]) (.agg [.int .u32 0, .int .u32 0, .int .i64 0, .int .u32 0].toArray) (by kernel_rfl) rfl ?_
        clear HS
        intro g89 w90 hg91 HS
        refine St.stores (cs' := [.int .u32 (rn 4 (kS b j).2), .int .u32 (rn 4 (rs 4 (kS b j).2)), .int .i64 0, .int .u32 0]) HS [.int .u32 (rn 4 (kS b j).2), .int .u32 (rn 4 (rs 4 (kS b j).2)), .int .i64 0, .int .u32 0] 4 rfl rfl (by rfl) (by kernel_rfl) rfl (by simp) rfl ?_
        clear HS
        intro w92 HS
        refine wpList_nil ?_
        refine fr_at (l' := (.slice A b.length c :: undef :: .pointer (some ⟨g5, 0, none⟩) :: .int .i64 0 :: .pointer (some ⟨g15, 0, none⟩) :: .pointer (some ⟨g23, 0, none⟩) :: .pointer (some ⟨g89, 0, none⟩) :: undef :: undef :: .slice A b.length c :: .pointer (some ⟨g13, 0, none⟩) :: .agg ([.pointer (some ⟨g13, 0, none⟩)] : List Value).toArray :: .pointer (some ⟨g15, 0, none⟩) :: .pointer (some ⟨g13, 0, none⟩) :: .int .u64 (rn 4 (b, false)) :: .int .u32 (rn 4 (b, false)) :: V8.l qz44 (V8.l qz51 (V8.l qz71 (.int .u64 (rn 1 (k7 b)) :: .int .u64 (nSn b : Int) :: .int .u64 (j : Int) :: .bool (decide ((j : Int) < (nSn b : Int))) :: .agg ([.pointer (some ⟨g13, 0, none⟩)] : List Value).toArray :: .agg ([.int .u32 (rn 4 (kS b j).2), .int .u32 (rn 4 (rs 4 (kS b j).2))] : List Value).toArray :: .agg ([.int .u32 (rn 4 (kS b j).2), .int .u32 (rn 4 (rs 4 (kS b j).2)), .int .i64 0, .int .u32 0] : List Value).toArray :: u47 :: u48 :: u49 :: u50 :: u51 :: u52 :: u53 :: u54 :: u55 :: u56 :: u57 :: u58 :: u59 :: u60 :: u61 :: U32k3 (U8k3 (U4k3 ([])))))))) rfl ?_
        refine hK85 _ _ ?_
        refine wp_seq_k (fun K93 hK94 => ?_)
        refine c_region (fun ops96 hops95 => ?_)
        clear hops95
        refine p_run _ (x_loads [.pointer (some ⟨g13, 0, none⟩)] 1 rfl rfl (bkCells (HS.get (.tail _ (.tail _ (.tail _ (.tail _ (.head _)))))) 0 _ rfl) (by rfl) (by kernel_rfl) rfl) rfl ?_
        refine w_call [.agg ([.pointer (some ⟨g13, 0, none⟩)] : List Value).toArray] Try.func28 (by kernel_rfl) (by rfl) rfl ?_
        replace HS := (HS.front 1 rfl)
        refine (kpage_any HS).mono ?_
        clear HS
        rintro e w97 ⟨rfl, HS⟩
        replace HS : St _ _ _ (rdr g12 g13 (rs 1 (rs 4 (rs 4 (kS b j).2))) :: _) := HS
        refine ⟨_, rfl, ?_⟩
        refine p_run _ (x_field (j := 2) _ _ rfl rfl Try.underlying48 rfl (by rfl) rfl) rfl ?_
        refine St.store (cs' := [.int .u32 (rn 4 (kS b j).2), .int .u32 (rn 4 (rs 4 (kS b j).2)), .int .i64 (rn 1 (rs 4 (rs 4 (kS b j).2)) - 1), .int .u32 0]) (HS.front 1 rfl) (.int .i64 (rn 1 (rs 4 (rs 4 (kS b j).2)) - 1)) rfl rfl rfl (by kernel_rfl) (by rfl) rfl ?_
        clear HS
        intro w98 HS
        refine wpList_nil ?_
        refine hK94 _ _ ?_
        refine wp_seq_k (fun K99 hK100 => ?_)
        refine c_region (fun ops102 hops101 => ?_)
        clear hops101
        refine p_run _ (x_field (j := 0) _ _ rfl rfl Try.underlying65 rfl (by rfl) rfl) rfl ?_
        refine p_run _ (x_load (.pointer (some ⟨g13, 0, none⟩)) rfl rfl (bkCell (HS.get (.tail _ (.tail _ (.tail _ (.tail _ (.head _)))))) 0 _ rfl) (by rfl)) rfl ?_
        refine w_call [.pointer (some ⟨g13, 0, none⟩), .int .i64 4] Try.func27 (by kernel_rfl) (by rfl) rfl ?_
        replace HS := (HS.front 1 rfl)
        refine (St.num HS 4).mono ?_
        clear HS
        rintro e w103 ⟨rfl, HS⟩
        replace HS : St _ _ _ (rdr g12 g13 (rs 4 (rs 1 (rs 4 (rs 4 (kS b j).2)))) :: _) := HS
        refine ⟨_, rfl, ?_⟩
        refine p_run (l' := (.slice A b.length c :: undef :: .pointer (some ⟨g5, 0, none⟩) :: .int .i64 0 :: .pointer (some ⟨g15, 0, none⟩) :: .pointer (some ⟨g23, 0, none⟩) :: .pointer (some ⟨g89, 0, none⟩) :: undef :: undef :: .slice A b.length c :: .pointer (some ⟨g13, 0, none⟩) :: .agg ([.pointer (some ⟨g13, 0, none⟩)] : List Value).toArray :: .pointer (some ⟨g15, 0, none⟩) :: .pointer (some ⟨g13, 0, none⟩) :: .int .u64 (rn 4 (b, false)) :: .int .u32 (rn 4 (b, false)) :: V8.l qz44 (V8.l qz51 (V8.l qz71 (.int .u64 (rn 1 (k7 b)) :: .int .u64 (nSn b : Int) :: .int .u64 (j : Int) :: .bool (decide ((j : Int) < (nSn b : Int))) :: .agg ([.pointer (some ⟨g13, 0, none⟩)] : List Value).toArray :: .agg ([.int .u32 (rn 4 (kS b j).2), .int .u32 (rn 4 (rs 4 (kS b j).2))] : List Value).toArray :: .agg ([.int .u32 (rn 4 (kS b j).2), .int .u32 (rn 4 (rs 4 (kS b j).2)), .int .i64 0, .int .u32 0] : List Value).toArray :: .agg ([.pointer (some ⟨g13, 0, none⟩)] : List Value).toArray :: .int .i64 (rn 1 (rs 4 (rs 4 (kS b j).2)) - 1) :: .pointer (some ⟨g89, 2, none⟩) :: .pointer (some ⟨g15, 0, none⟩) :: .pointer (some ⟨g13, 0, none⟩) :: .int .u64 (rn 4 (rs 1 (rs 4 (rs 4 (kS b j).2)))) :: .int .u32 (rn 4 (rs 1 (rs 4 (rs 4 (kS b j).2)))) :: u54 :: u55 :: u56 :: u57 :: u58 :: u59 :: u60 :: u61 :: U32k3 (U8k3 (U4k3 ([])))))))) _ (x_conv (k := .u64) (m := (rn 4 (rs 1 (rs 4 (rs 4 (kS b j).2))))) .u32 ((rn 4 (rs 1 (rs 4 (rs 4 (kS b j).2))))) rfl (by rw [Try.underlying30]; rfl) Try.underlying26 rfl (wu32 (bd4 _))) rfl ?_
        refine p_run _ (x_field (j := 3) _ _ rfl rfl Try.underlying48 rfl (by rfl) rfl) rfl ?_
        refine St.store (cs' := [.int .u32 (rn 4 (kS b j).2), .int .u32 (rn 4 (rs 4 (kS b j).2)), .int .i64 (rn 1 (rs 4 (rs 4 (kS b j).2)) - 1), .int .u32 (rn 4 (rs 1 (rs 4 (rs 4 (kS b j).2))))]) (HS.front 1 rfl) (.int .u32 (rn 4 (rs 1 (rs 4 (rs 4 (kS b j).2))))) rfl rfl rfl (by kernel_rfl) (by rfl) rfl ?_
        clear HS
        intro w104 HS
        refine wpList_nil ?_
        refine hK100 _ _ ?_
        refine c_region (fun ops106 hops105 => ?_)
        clear hops105
        refine p_run _ (x_field (j := 7) _ _ rfl rfl Try.underlying34 rfl (by rfl) rfl) rfl ?_
        refine p_run _ (x_load (vs) rfl rfl (bkCell (HS.get (.tail _ (.tail _ (.tail _ (.head _))))) 7 _ rfl) (by rfl)) rfl ?_
        refine p_run _ (x_loads [.int .u32 (rn 4 (kS b j).2), .int .u32 (rn 4 (rs 4 (kS b j).2)), .int .i64 (rn 1 (rs 4 (rs 4 (kS b j).2)) - 1), .int .u32 (rn 4 (rs 1 (rs 4 (rs 4 (kS b j).2))))] 4 rfl rfl (bkCells (HS.get (.head _)) 0 _ rfl) (by rfl) (by kernel_rfl) rfl) rfl ?_
        refine St.wLit1 HS [.int .u32 (rn 4 (kS b j).2), .int .u32 (rn 4 (rs 4 (kS b j).2)), .int .i64 (rn 1 (rs 4 (rs 4 (kS b j).2)) - 1), .int .u32 (rn 4 (rs 1 (rs 4 (rs 4 (kS b j).2))))] 4 (.agg [.int .u32 0, .int .u32 0, .int .i64 0, .int .u32 0].toArray) (.agg ([.int .u32 (rn 4 (kS b j).2), .int .u32 (rn 4 (rs 4 (kS b j).2)), .int .i64 (rn 1 (rs 4 (rs 4 (kS b j).2)) - 1), .int .u32 (rn 4 (rs 1 (rs 4 (rs 4 (kS b j).2))))] : List Value).toArray) Try.underlying29 (by kernel_rfl) (by decide) rfl rfl rfl ?_
        clear HS
        intro g107 w108 hg109 HS
        replace HS := (HS.front 3 rfl)
        refine St.wAppend HS ((.agg #[.int .u32 0, .int .u32 0, .int .i64 0, .int .u32 0])) 24 Try.underlying29 (by kernel_rfl) (by kernel_rfl) (by decide) (by decide) [(rdSn (kS b j).2).1] _ _ _ rfl rfl (lit_reads (HS.get (.tail _ (.head _))) ((Reps.none _ _).snoc (p := (rdSn (kS b j).2).1) rfl rfl) (by simp)) (fun _ _ h => h) (by have h_ := kS_len b j; have := nSn_le b; omega) ?_
        clear HS
        intro v110 w111 HS
        refine p_run (l' := (.slice A b.length c :: undef :: .pointer (some ⟨g5, 0, none⟩) :: .int .i64 0 :: .pointer (some ⟨g15, 0, none⟩) :: .pointer (some ⟨g23, 0, none⟩) :: .pointer (some ⟨g89, 0, none⟩) :: undef :: undef :: .slice A b.length c :: .pointer (some ⟨g13, 0, none⟩) :: .agg ([.pointer (some ⟨g13, 0, none⟩)] : List Value).toArray :: .pointer (some ⟨g15, 0, none⟩) :: .pointer (some ⟨g13, 0, none⟩) :: .int .u64 (rn 4 (b, false)) :: .int .u32 (rn 4 (b, false)) :: V8.l qz44 (V8.l qz51 (V8.l qz71 (.int .u64 (rn 1 (k7 b)) :: .int .u64 (nSn b : Int) :: .int .u64 (j : Int) :: .bool (decide ((j : Int) < (nSn b : Int))) :: .agg ([.pointer (some ⟨g13, 0, none⟩)] : List Value).toArray :: .agg ([.int .u32 (rn 4 (kS b j).2), .int .u32 (rn 4 (rs 4 (kS b j).2))] : List Value).toArray :: .agg ([.int .u32 (rn 4 (kS b j).2), .int .u32 (rn 4 (rs 4 (kS b j).2)), .int .i64 0, .int .u32 0] : List Value).toArray :: .agg ([.pointer (some ⟨g13, 0, none⟩)] : List Value).toArray :: .int .i64 (rn 1 (rs 4 (rs 4 (kS b j).2)) - 1) :: .pointer (some ⟨g89, 2, none⟩) :: .pointer (some ⟨g15, 0, none⟩) :: .pointer (some ⟨g13, 0, none⟩) :: .int .u64 (rn 4 (rs 1 (rs 4 (rs 4 (kS b j).2)))) :: .int .u32 (rn 4 (rs 1 (rs 4 (rs 4 (kS b j).2)))) :: .pointer (some ⟨g89, 3, none⟩) :: .pointer (some ⟨g23, 7, none⟩) :: vs :: .agg ([.int .u32 (rn 4 (kS b j).2), .int .u32 (rn 4 (rs 4 (kS b j).2)), .int .i64 (rn 1 (rs 4 (rs 4 (kS b j).2)) - 1), .int .u32 (rn 4 (rs 1 (rs 4 (rs 4 (kS b j).2))))] : List Value).toArray :: .slice (some ⟨g107, 0, none⟩) 1 1 :: v110 :: .pointer (some ⟨g23, 7, none⟩) :: u61 :: U32k3 (U8k3 (U4k3 ([])))))))) _ (x_field (j := 7) _ _ rfl rfl Try.underlying34 rfl (by rfl) rfl) rfl ?_
        refine St.store (cs' := (.int .u32 (rn 4 (b, false)) :: .bool ((rn 1 (k1 b)) == 1) :: .int .u32 (rn 4 (k2 b)) :: .int .u32 (rn 4 (k3 b)) :: .int .i64 (rn 1 (k4 b) - 1) :: .int .u32 (rn 4 (k5 b)) :: .int .u32 (rn 4 (k6 b)) :: v110 :: .int .u64 0 :: .int .u32 0 :: .int .u32 0 :: .int .u32 0 :: .int .u32 0 :: .int .i64 0 :: .int .i64 0 :: .int .i64 0 :: [])) (HS.front 4 rfl) (v110) rfl rfl (row_one (HS.get (.head _))) (by kernel_rfl) (by rfl) rfl ?_
        clear HS
        intro w112 HS
        refine wpList_nil ?_
        refine hK83 _ _ ?_
        refine c_region (fun ops114 hops113 => ?_)
        clear hops113
        refine p_run _ (x_arith (k := .u64) (m := (j : Int)) (n := 1) .add (((j + 1 : Nat) : Int)) rfl rfl rfl (show IntKind.u64.wrap ((j : Int) + 1) = ((j + 1 : Nat) : Int) from ((wru64 (by have := nSn_le b; omega)).trans (by omega))) rfl) rfl ?_
        refine p_run _ (x_move (.int .u64 ((j + 1 : Nat) : Int)) rfl rfl) rfl ?_
        refine wpList_nil ?_
        refine fr_at (l' := (.slice A b.length c :: undef :: .pointer (some ⟨g5, 0, none⟩) :: .int .i64 0 :: .pointer (some ⟨g15, 0, none⟩) :: .pointer (some ⟨g23, 0, none⟩) :: .pointer (some ⟨g89, 0, none⟩) :: undef :: undef :: .slice A b.length c :: .pointer (some ⟨g13, 0, none⟩) :: .agg ([.pointer (some ⟨g13, 0, none⟩)] : List Value).toArray :: .pointer (some ⟨g15, 0, none⟩) :: .pointer (some ⟨g13, 0, none⟩) :: .int .u64 (rn 4 (b, false)) :: .int .u32 (rn 4 (b, false)) :: V8.l qz44 (V8.l qz51 (V8.l qz71 (.int .u64 (rn 1 (k7 b)) :: .int .u64 (nSn b : Int) :: .int .u64 ((j + 1 : Nat) : Int) :: .bool (decide ((j : Int) < (nSn b : Int))) :: .agg ([.pointer (some ⟨g13, 0, none⟩)] : List Value).toArray :: .agg ([.int .u32 (rn 4 (kS b j).2), .int .u32 (rn 4 (rs 4 (kS b j).2))] : List Value).toArray :: .agg ([.int .u32 (rn 4 (kS b j).2), .int .u32 (rn 4 (rs 4 (kS b j).2)), .int .i64 0, .int .u32 0] : List Value).toArray :: .agg ([.pointer (some ⟨g13, 0, none⟩)] : List Value).toArray :: .int .i64 (rn 1 (rs 4 (rs 4 (kS b j).2)) - 1) :: .pointer (some ⟨g89, 2, none⟩) :: .pointer (some ⟨g15, 0, none⟩) :: .pointer (some ⟨g13, 0, none⟩) :: .int .u64 (rn 4 (rs 1 (rs 4 (rs 4 (kS b j).2)))) :: .int .u32 (rn 4 (rs 1 (rs 4 (rs 4 (kS b j).2)))) :: .pointer (some ⟨g89, 3, none⟩) :: .pointer (some ⟨g23, 7, none⟩) :: vs :: .agg ([.int .u32 (rn 4 (kS b j).2), .int .u32 (rn 4 (rs 4 (kS b j).2)), .int .i64 (rn 1 (rs 4 (rs 4 (kS b j).2)) - 1), .int .u32 (rn 4 (rs 1 (rs 4 (rs 4 (kS b j).2))))] : List Value).toArray :: .slice (some ⟨g107, 0, none⟩) 1 1 :: v110 :: .pointer (some ⟨g23, 7, none⟩) :: .int .u64 ((j + 1 : Nat) : Int) :: U32k3 (U8k3 (U4k3 ([])))))))) rfl ?_
        refine hJ73 (j + 1, v110) _ _ ?_ ?_
        · show nSn b - (j + 1) < nSn b - j; omega
        · exact ⟨_, _, _, _, _, _, _, _, _, _, _, _, _, _, _, _, _, _, _, _, rfl, (((((((HS.front 2 rfl).drop.front 2 rfl).drop.front 4 rfl).front 4 rfl).front 4 rfl).front 3 rfl).front 4 rfl), (by omega)⟩
      · have hlt : j = nSn b := by have := of_decide_eq_false hc81; omega
        subst hlt
        replace HS := (HS.front 2 rfl)
        replace HS : St _ _ _ (rdr g12 g13 (kE b) :: _) := HS
        refine wp_exit ?_
        refine hK65 _ _ ?_
        refine wp_seq_k (fun K115 hK116 => ?_)
        refine c_region (fun ops118 hops117 => ?_)
        clear hops117
        refine p_run _ (x_field (j := 0) _ _ rfl rfl Try.underlying65 rfl (by rfl) rfl) rfl ?_
        refine p_run _ (x_load (.pointer (some ⟨g13, 0, none⟩)) rfl rfl (bkCell (HS.get (.tail _ (.tail _ (.tail _ (.head _))))) 0 _ rfl) (by rfl)) rfl ?_
        refine w_call [.pointer (some ⟨g13, 0, none⟩), .int .i64 8] Try.func27 (by kernel_rfl) (by rfl) rfl ?_
        refine (St.num HS 8).mono ?_
        clear HS
        rintro e w119 ⟨rfl, HS⟩
        replace HS : St _ _ _ (rdr g12 g13 (k9 b) :: _) := HS
        refine ⟨_, rfl, ?_⟩
        refine p_run _ (x_field (j := 8) _ _ rfl rfl Try.underlying34 rfl (by rfl) rfl) rfl ?_
        refine p_run _ (x_field (j := 8) _ _ rfl rfl Try.underlying32 rfl (by rfl) rfl) rfl ?_
        refine St.store (cs' := (.int .u32 (rn 4 (b, false)) :: .bool ((rn 1 (k1 b)) == 1) :: .int .u32 (rn 4 (k2 b)) :: .int .u32 (rn 4 (k3 b)) :: .int .i64 (rn 1 (k4 b) - 1) :: .int .u32 (rn 4 (k5 b)) :: .int .u32 (rn 4 (k6 b)) :: vs :: .int .u64 (rn 8 (kE b)) :: .int .u32 0 :: .int .u32 0 :: .int .u32 0 :: .int .u32 0 :: .int .i64 0 :: .int .i64 0 :: .int .i64 0 :: [])) (HS.front 2 rfl) (.int .u64 (rn 8 (kE b))) rfl rfl rfl (by kernel_rfl) (by rfl) rfl ?_
        clear HS
        intro w120 HS
        refine wpList_nil ?_
        obtain ⟨qz121, hqz121⟩ : ∃ q_ : V8, q_ = ⟨.int .u64 (rn 1 (k7 b)), .int .u64 (nSn b : Int), .int .u64 ((nSn b) : Int), .bool (decide (((nSn b) : Int) < (nSn b : Int))), u44, u45, u46, u47⟩ := ⟨_, rfl⟩
        obtain ⟨qz122, hqz122⟩ : ∃ q_ : V8, q_ = ⟨u48, u49, u50, u51, u52, u53, u54, u55⟩ := ⟨_, rfl⟩
        obtain ⟨qz123, hqz123⟩ : ∃ q_ : V8, q_ = ⟨u56, u57, u58, u59, u60, u61, .pointer (some ⟨g15, 0, none⟩), .pointer (some ⟨g13, 0, none⟩)⟩ := ⟨_, rfl⟩
        refine fr_at (l' := (.slice A b.length c :: undef :: .pointer (some ⟨g5, 0, none⟩) :: .int .i64 0 :: .pointer (some ⟨g15, 0, none⟩) :: .pointer (some ⟨g23, 0, none⟩) :: u6 :: undef :: undef :: .slice A b.length c :: .pointer (some ⟨g13, 0, none⟩) :: .agg ([.pointer (some ⟨g13, 0, none⟩)] : List Value).toArray :: .pointer (some ⟨g15, 0, none⟩) :: .pointer (some ⟨g13, 0, none⟩) :: .int .u64 (rn 4 (b, false)) :: .int .u32 (rn 4 (b, false)) :: V8.l qz44 (V8.l qz51 (V8.l qz71 (V8.l qz121 (V8.l qz122 (V8.l qz123 (.int .u64 (rn 8 (kE b)) :: .pointer (some ⟨g23, 8, none⟩) :: .pointer (some ⟨g23, 8, none⟩) :: U32k3 (U4k3 (undef :: undef :: undef :: [])))))))))) (by subst hqz121 hqz122 hqz123; rfl) ?_
        refine hK116 _ _ ?_
        refine wp_seq_k (fun K124 hK125 => ?_)
        refine c_region (fun ops127 hops126 => ?_)
        clear hops126
        refine p_run _ (x_loads [.pointer (some ⟨g13, 0, none⟩)] 1 rfl rfl (bkCells (HS.get (.tail _ (.tail _ (.tail _ (.head _))))) 0 _ rfl) (by rfl) (by kernel_rfl) rfl) rfl ?_
        refine w_call [.agg ([.pointer (some ⟨g13, 0, none⟩)] : List Value).toArray] Try.func29 (by kernel_rfl) (by rfl) rfl ?_
        replace HS := (HS.front 1 rfl)
        refine (klabel_any HS).mono ?_
        clear HS
        rintro e w128 ⟨rfl, HS⟩
        replace HS : St _ _ _ (rdr g12 g13 (k11 b) :: _) := HS
        refine ⟨_, rfl, ?_⟩
        refine p_run _ (x_field (j := 8) _ _ rfl rfl Try.underlying34 rfl (by rfl) rfl) rfl ?_
        refine p_run _ (x_field (j := 9) _ _ rfl rfl Try.underlying32 rfl (by rfl) rfl) rfl ?_
        refine St.stores (cs' := (.int .u32 (rn 4 (b, false)) :: .bool ((rn 1 (k1 b)) == 1) :: .int .u32 (rn 4 (k2 b)) :: .int .u32 (rn 4 (k3 b)) :: .int .i64 (rn 1 (k4 b) - 1) :: .int .u32 (rn 4 (k5 b)) :: .int .u32 (rn 4 (k6 b)) :: vs :: .int .u64 (rn 8 (kE b)) :: .int .u32 (rn 4 (k9 b)) :: .int .u32 (rn 4 (k10 b)) :: .int .u32 0 :: .int .u32 0 :: .int .i64 0 :: .int .i64 0 :: .int .i64 0 :: [])) (HS.front 1 rfl) [.int .u32 (rn 4 (k9 b)), .int .u32 (rn 4 (k10 b))] 2 rfl rfl (by rfl) (by kernel_rfl) rfl (by simp) rfl ?_
        clear HS
        intro w129 HS
        refine wpList_nil ?_
        refine fr_at (l' := (.slice A b.length c :: undef :: .pointer (some ⟨g5, 0, none⟩) :: .int .i64 0 :: .pointer (some ⟨g15, 0, none⟩) :: .pointer (some ⟨g23, 0, none⟩) :: u6 :: undef :: undef :: .slice A b.length c :: .pointer (some ⟨g13, 0, none⟩) :: .agg ([.pointer (some ⟨g13, 0, none⟩)] : List Value).toArray :: .pointer (some ⟨g15, 0, none⟩) :: .pointer (some ⟨g13, 0, none⟩) :: .int .u64 (rn 4 (b, false)) :: .int .u32 (rn 4 (b, false)) :: V8.l qz44 (V8.l qz51 (V8.l qz71 (V8.l qz121 (V8.l qz122 (V8.l qz123 (.int .u64 (rn 8 (kE b)) :: .pointer (some ⟨g23, 8, none⟩) :: .pointer (some ⟨g23, 8, none⟩) :: .agg ([.pointer (some ⟨g13, 0, none⟩)] : List Value).toArray :: .agg ([.int .u32 (rn 4 (k9 b)), .int .u32 (rn 4 (k10 b))] : List Value).toArray :: .pointer (some ⟨g23, 8, none⟩) :: .pointer (some ⟨g23, 9, none⟩) :: U32k3 (undef :: undef :: undef :: []))))))))) rfl ?_
        refine hK125 _ _ ?_
        refine wp_seq_k (fun K130 hK131 => ?_)
        refine c_region (fun ops133 hops132 => ?_)
        clear hops132
        refine p_run _ (x_loads [.pointer (some ⟨g13, 0, none⟩)] 1 rfl rfl (bkCells (HS.get (.tail _ (.tail _ (.tail _ (.head _))))) 0 _ rfl) (by rfl) (by kernel_rfl) rfl) rfl ?_
        refine w_call [.agg ([.pointer (some ⟨g13, 0, none⟩)] : List Value).toArray] Try.func29 (by kernel_rfl) (by rfl) rfl ?_
        replace HS := (HS.front 1 rfl)
        refine (klabel_any HS).mono ?_
        clear HS
        rintro e w134 ⟨rfl, HS⟩
        replace HS : St _ _ _ (rdr g12 g13 (k13 b) :: _) := HS
        refine ⟨_, rfl, ?_⟩
        refine p_run _ (x_field (j := 8) _ _ rfl rfl Try.underlying34 rfl (by rfl) rfl) rfl ?_
        refine p_run _ (x_field (j := 11) _ _ rfl rfl Try.underlying32 rfl (by rfl) rfl) rfl ?_
        refine St.stores (cs' := (.int .u32 (rn 4 (b, false)) :: .bool ((rn 1 (k1 b)) == 1) :: .int .u32 (rn 4 (k2 b)) :: .int .u32 (rn 4 (k3 b)) :: .int .i64 (rn 1 (k4 b) - 1) :: .int .u32 (rn 4 (k5 b)) :: .int .u32 (rn 4 (k6 b)) :: vs :: .int .u64 (rn 8 (kE b)) :: .int .u32 (rn 4 (k9 b)) :: .int .u32 (rn 4 (k10 b)) :: .int .u32 (rn 4 (k11 b)) :: .int .u32 (rn 4 (k12 b)) :: .int .i64 0 :: .int .i64 0 :: .int .i64 0 :: [])) (HS.front 1 rfl) [.int .u32 (rn 4 (k11 b)), .int .u32 (rn 4 (k12 b))] 2 rfl rfl (by rfl) (by kernel_rfl) rfl (by simp) rfl ?_
        clear HS
        intro w135 HS
        refine wpList_nil ?_
        obtain ⟨qz136, hqz136⟩ : ∃ q_ : V8, q_ = ⟨.int .u64 (rn 8 (kE b)), .pointer (some ⟨g23, 8, none⟩), .pointer (some ⟨g23, 8, none⟩), .agg ([.pointer (some ⟨g13, 0, none⟩)] : List Value).toArray, .agg ([.int .u32 (rn 4 (k9 b)), .int .u32 (rn 4 (k10 b))] : List Value).toArray, .pointer (some ⟨g23, 8, none⟩), .pointer (some ⟨g23, 9, none⟩), .agg ([.pointer (some ⟨g13, 0, none⟩)] : List Value).toArray⟩ := ⟨_, rfl⟩
        refine fr_at (l' := (.slice A b.length c :: undef :: .pointer (some ⟨g5, 0, none⟩) :: .int .i64 0 :: .pointer (some ⟨g15, 0, none⟩) :: .pointer (some ⟨g23, 0, none⟩) :: u6 :: undef :: undef :: .slice A b.length c :: .pointer (some ⟨g13, 0, none⟩) :: .agg ([.pointer (some ⟨g13, 0, none⟩)] : List Value).toArray :: .pointer (some ⟨g15, 0, none⟩) :: .pointer (some ⟨g13, 0, none⟩) :: .int .u64 (rn 4 (b, false)) :: .int .u32 (rn 4 (b, false)) :: V8.l qz44 (V8.l qz51 (V8.l qz71 (V8.l qz121 (V8.l qz122 (V8.l qz123 (V8.l qz136 (.agg ([.int .u32 (rn 4 (k11 b)), .int .u32 (rn 4 (k12 b))] : List Value).toArray :: .pointer (some ⟨g23, 8, none⟩) :: .pointer (some ⟨g23, 11, none⟩) :: U16k3 (U8k3 (U4k3 (undef :: undef :: undef :: [])))))))))))) (by subst hqz136; rfl) ?_
        refine hK131 _ _ ?_
        refine wp_seq_k (fun K137 hK138 => ?_)
        refine c_region (fun ops140 hops139 => ?_)
        clear hops139
        refine p_run _ (x_field (j := 0) _ _ rfl rfl Try.underlying65 rfl (by rfl) rfl) rfl ?_
        refine p_run _ (x_load (.pointer (some ⟨g13, 0, none⟩)) rfl rfl (bkCell (HS.get (.tail _ (.tail _ (.tail _ (.head _))))) 0 _ rfl) (by rfl)) rfl ?_
        refine w_call [.pointer (some ⟨g13, 0, none⟩), .int .i64 1] Try.func27 (by kernel_rfl) (by rfl) rfl ?_
        replace HS := (HS.front 1 rfl)
        refine (St.num HS 1).mono ?_
        clear HS
        rintro e w141 ⟨rfl, HS⟩
        replace HS : St _ _ _ (rdr g12 g13 (k14 b) :: _) := HS
        refine ⟨_, rfl, ?_⟩
        refine p_run _ (x_conv (k := .u64) (m := (rn 1 (k13 b))) .i64 ((rn 1 (k13 b))) rfl (by rw [Try.underlying30]; rfl) Try.underlying3 rfl (wr64' (by have := bd1 (k13 b); omega))) rfl ?_
        refine p_run _ (x_field (j := 8) _ _ rfl rfl Try.underlying34 rfl (by rfl) rfl) rfl ?_
        refine p_run _ (x_field (j := 13) _ _ rfl rfl Try.underlying32 rfl (by rfl) rfl) rfl ?_
        refine St.store (cs' := (.int .u32 (rn 4 (b, false)) :: .bool ((rn 1 (k1 b)) == 1) :: .int .u32 (rn 4 (k2 b)) :: .int .u32 (rn 4 (k3 b)) :: .int .i64 (rn 1 (k4 b) - 1) :: .int .u32 (rn 4 (k5 b)) :: .int .u32 (rn 4 (k6 b)) :: vs :: .int .u64 (rn 8 (kE b)) :: .int .u32 (rn 4 (k9 b)) :: .int .u32 (rn 4 (k10 b)) :: .int .u32 (rn 4 (k11 b)) :: .int .u32 (rn 4 (k12 b)) :: .int .i64 (rn 1 (k13 b)) :: .int .i64 0 :: .int .i64 0 :: [])) (HS.front 1 rfl) (.int .i64 (rn 1 (k13 b))) rfl rfl rfl (by kernel_rfl) (by rfl) rfl ?_
        clear HS
        intro w142 HS
        refine wpList_nil ?_
        obtain ⟨qz143, hqz143⟩ : ∃ q_ : V8, q_ = ⟨.agg ([.int .u32 (rn 4 (k11 b)), .int .u32 (rn 4 (k12 b))] : List Value).toArray, .pointer (some ⟨g23, 8, none⟩), .pointer (some ⟨g23, 11, none⟩), .pointer (some ⟨g15, 0, none⟩), .pointer (some ⟨g13, 0, none⟩), .int .u64 (rn 1 (k13 b)), .int .i64 (rn 1 (k13 b)), .pointer (some ⟨g23, 8, none⟩)⟩ := ⟨_, rfl⟩
        refine fr_at (l' := (.slice A b.length c :: undef :: .pointer (some ⟨g5, 0, none⟩) :: .int .i64 0 :: .pointer (some ⟨g15, 0, none⟩) :: .pointer (some ⟨g23, 0, none⟩) :: u6 :: undef :: undef :: .slice A b.length c :: .pointer (some ⟨g13, 0, none⟩) :: .agg ([.pointer (some ⟨g13, 0, none⟩)] : List Value).toArray :: .pointer (some ⟨g15, 0, none⟩) :: .pointer (some ⟨g13, 0, none⟩) :: .int .u64 (rn 4 (b, false)) :: .int .u32 (rn 4 (b, false)) :: V8.l qz44 (V8.l qz51 (V8.l qz71 (V8.l qz121 (V8.l qz122 (V8.l qz123 (V8.l qz136 (V8.l qz143 (.pointer (some ⟨g23, 13, none⟩) :: U16k3 (U8k3 (undef :: [])))))))))))) (by subst hqz143; rfl) ?_
        refine hK138 _ _ ?_
        refine wp_seq_k (fun K144 hK145 => ?_)
        refine c_region (fun ops147 hops146 => ?_)
        clear hops146
        refine p_run _ (x_field (j := 0) _ _ rfl rfl Try.underlying65 rfl (by rfl) rfl) rfl ?_
        refine p_run _ (x_load (.pointer (some ⟨g13, 0, none⟩)) rfl rfl (bkCell (HS.get (.tail _ (.tail _ (.tail _ (.head _))))) 0 _ rfl) (by rfl)) rfl ?_
        refine w_call [.pointer (some ⟨g13, 0, none⟩), .int .i64 1] Try.func27 (by kernel_rfl) (by rfl) rfl ?_
        replace HS := (HS.front 1 rfl)
        refine (St.num HS 1).mono ?_
        clear HS
        rintro e w148 ⟨rfl, HS⟩
        replace HS : St _ _ _ (rdr g12 g13 (k15 b) :: _) := HS
        refine ⟨_, rfl, ?_⟩
        refine p_run _ (x_conv (k := .u64) (m := (rn 1 (k14 b))) .i64 ((rn 1 (k14 b))) rfl (by rw [Try.underlying30]; rfl) Try.underlying3 rfl (wr64' (by have := bd1 (k14 b); omega))) rfl ?_
        refine p_run _ (x_field (j := 8) _ _ rfl rfl Try.underlying34 rfl (by rfl) rfl) rfl ?_
        refine p_run _ (x_field (j := 14) _ _ rfl rfl Try.underlying32 rfl (by rfl) rfl) rfl ?_
        refine St.store (cs' := (.int .u32 (rn 4 (b, false)) :: .bool ((rn 1 (k1 b)) == 1) :: .int .u32 (rn 4 (k2 b)) :: .int .u32 (rn 4 (k3 b)) :: .int .i64 (rn 1 (k4 b) - 1) :: .int .u32 (rn 4 (k5 b)) :: .int .u32 (rn 4 (k6 b)) :: vs :: .int .u64 (rn 8 (kE b)) :: .int .u32 (rn 4 (k9 b)) :: .int .u32 (rn 4 (k10 b)) :: .int .u32 (rn 4 (k11 b)) :: .int .u32 (rn 4 (k12 b)) :: .int .i64 (rn 1 (k13 b)) :: .int .i64 (rn 1 (k14 b)) :: .int .i64 0 :: [])) (HS.front 1 rfl) (.int .i64 (rn 1 (k14 b))) rfl rfl rfl (by kernel_rfl) (by rfl) rfl ?_
        clear HS
        intro w149 HS
        refine wpList_nil ?_
        refine fr_at (l' := (.slice A b.length c :: undef :: .pointer (some ⟨g5, 0, none⟩) :: .int .i64 0 :: .pointer (some ⟨g15, 0, none⟩) :: .pointer (some ⟨g23, 0, none⟩) :: u6 :: undef :: undef :: .slice A b.length c :: .pointer (some ⟨g13, 0, none⟩) :: .agg ([.pointer (some ⟨g13, 0, none⟩)] : List Value).toArray :: .pointer (some ⟨g15, 0, none⟩) :: .pointer (some ⟨g13, 0, none⟩) :: .int .u64 (rn 4 (b, false)) :: .int .u32 (rn 4 (b, false)) :: V8.l qz44 (V8.l qz51 (V8.l qz71 (V8.l qz121 (V8.l qz122 (V8.l qz123 (V8.l qz136 (V8.l qz143 (.pointer (some ⟨g23, 13, none⟩) :: .pointer (some ⟨g15, 0, none⟩) :: .pointer (some ⟨g13, 0, none⟩) :: .int .u64 (rn 1 (k14 b)) :: .int .i64 (rn 1 (k14 b)) :: .pointer (some ⟨g23, 8, none⟩) :: .pointer (some ⟨g23, 14, none⟩) :: U16k3 (undef :: undef :: undef :: []))))))))))) rfl ?_
        refine hK145 _ _ ?_
        refine wp_seq_k (fun K150 hK151 => ?_)
        refine c_region (fun ops153 hops152 => ?_)
        clear hops152
        refine p_run _ (x_loads [.pointer (some ⟨g13, 0, none⟩)] 1 rfl rfl (bkCells (HS.get (.tail _ (.tail _ (.tail _ (.head _))))) 0 _ rfl) (by rfl) (by kernel_rfl) rfl) rfl ?_
        refine w_call [.agg ([.pointer (some ⟨g13, 0, none⟩)] : List Value).toArray] Try.func28 (by kernel_rfl) (by rfl) rfl ?_
        replace HS := (HS.front 1 rfl)
        refine (kpage_any HS).mono ?_
        clear HS
        rintro e w154 ⟨rfl, HS⟩
        replace HS : St _ _ _ (rdr g12 g13 (k16 b) :: _) := HS
        refine ⟨_, rfl, ?_⟩
        refine p_run _ (x_field (j := 8) _ _ rfl rfl Try.underlying34 rfl (by rfl) rfl) rfl ?_
        refine p_run _ (x_field (j := 15) _ _ rfl rfl Try.underlying32 rfl (by rfl) rfl) rfl ?_
        refine St.store (cs' := (.int .u32 (rn 4 (b, false)) :: .bool ((rn 1 (k1 b)) == 1) :: .int .u32 (rn 4 (k2 b)) :: .int .u32 (rn 4 (k3 b)) :: .int .i64 (rn 1 (k4 b) - 1) :: .int .u32 (rn 4 (k5 b)) :: .int .u32 (rn 4 (k6 b)) :: vs :: .int .u64 (rn 8 (kE b)) :: .int .u32 (rn 4 (k9 b)) :: .int .u32 (rn 4 (k10 b)) :: .int .u32 (rn 4 (k11 b)) :: .int .u32 (rn 4 (k12 b)) :: .int .i64 (rn 1 (k13 b)) :: .int .i64 (rn 1 (k14 b)) :: .int .i64 (rn 1 (k15 b) - 1) :: [])) (HS.front 1 rfl) (.int .i64 (rn 1 (k15 b) - 1)) rfl rfl rfl (by kernel_rfl) (by rfl) rfl ?_
        clear HS
        intro w155 HS
        refine wpList_nil ?_
        obtain ⟨qz156, hqz156⟩ : ∃ q_ : V8, q_ = ⟨.pointer (some ⟨g23, 13, none⟩), .pointer (some ⟨g15, 0, none⟩), .pointer (some ⟨g13, 0, none⟩), .int .u64 (rn 1 (k14 b)), .int .i64 (rn 1 (k14 b)), .pointer (some ⟨g23, 8, none⟩), .pointer (some ⟨g23, 14, none⟩), .agg ([.pointer (some ⟨g13, 0, none⟩)] : List Value).toArray⟩ := ⟨_, rfl⟩
        refine fr_at (l' := (.slice A b.length c :: undef :: .pointer (some ⟨g5, 0, none⟩) :: .int .i64 0 :: .pointer (some ⟨g15, 0, none⟩) :: .pointer (some ⟨g23, 0, none⟩) :: u6 :: undef :: undef :: .slice A b.length c :: .pointer (some ⟨g13, 0, none⟩) :: .agg ([.pointer (some ⟨g13, 0, none⟩)] : List Value).toArray :: .pointer (some ⟨g15, 0, none⟩) :: .pointer (some ⟨g13, 0, none⟩) :: .int .u64 (rn 4 (b, false)) :: .int .u32 (rn 4 (b, false)) :: V8.l qz44 (V8.l qz51 (V8.l qz71 (V8.l qz121 (V8.l qz122 (V8.l qz123 (V8.l qz136 (V8.l qz143 (V8.l qz156 (.int .i64 (rn 1 (k15 b) - 1) :: .pointer (some ⟨g23, 8, none⟩) :: .pointer (some ⟨g23, 15, none⟩) :: U8k3 (U4k3 (undef :: undef :: undef :: []))))))))))))) (by subst hqz156; rfl) ?_
        refine hK151 _ _ ?_
        refine wp_seq_k (fun K157 hK158 => ?_)
        refine wp_seq_k (fun K159 hK160 => ?_)
        skip
        · skip
          obtain ⟨A161, c162, hv163, hcp164, -⟩ := row_reads (HS.get (.tail _ (.tail _ (.head _))))
          subst hv163
          replace HS : St w (fun _ => False) w155 ([blk g23 (.int .u32 ((rdR b).e) :: .bool ((rdR b).p) :: .int .u32 ((rdR b).b) :: .int .u32 ((rdR b).q) :: .int .i64 ((rdR b).l) :: .int .u32 ((rdR b).xe) :: .int .u32 ((rdR b).xq) :: .slice A161 ((rdR b).sn.length) c162 :: .int .u64 ((rdR b).s) :: .int .u32 ((rdR b).te) :: .int .u32 ((rdR b).tq) :: .int .u32 ((rdR b).be) :: .int .u32 ((rdR b).bq) :: .int .i64 ((rdR b).nx) :: .int .i64 ((rdR b).tt) :: .int .i64 ((rdR b).rt) :: []) 34, rdr g12 g13 (k16 b), row kSn rfl 48 (.slice A161 ((rdR b).sn.length) c162) ((rdR b).sn), blk g15 [.pointer (some ⟨g13, 0, none⟩)] 65, blk g5 (.int .u32 0 :: .bool false :: .int .u32 0 :: .int .u32 0 :: .int .i64 0 :: .int .u32 0 :: .int .u32 0 :: .slice none 0 0 :: .int .u64 0 :: .int .u32 0 :: .int .u32 0 :: .int .u32 0 :: .int .u32 0 :: .int .i64 0 :: .int .i64 0 :: .int .i64 0 :: []) 34]) := HS
          refine c_region (fun ops166 hops165 => ?_)
          clear hops165
          refine p_run _ (x_loads (.int .u32 ((rdR b).e) :: .bool ((rdR b).p) :: .int .u32 ((rdR b).b) :: .int .u32 ((rdR b).q) :: .int .i64 ((rdR b).l) :: .int .u32 ((rdR b).xe) :: .int .u32 ((rdR b).xq) :: .slice A161 ((rdR b).sn.length) c162 :: .int .u64 ((rdR b).s) :: .int .u32 ((rdR b).te) :: .int .u32 ((rdR b).tq) :: .int .u32 ((rdR b).be) :: .int .u32 ((rdR b).bq) :: .int .i64 ((rdR b).nx) :: .int .i64 ((rdR b).tt) :: .int .i64 ((rdR b).rt) :: []) 16 rfl rfl (bkCells (HS.get (.head _)) 0 _ rfl) (by rfl) (by kernel_rfl) rfl) rfl ?_
          refine w_call [rcV (rdR b) A161 c162] Try.func8 (by kernel_rfl) (by rfl) rfl ?_
          refine (rbytes_law _ (rdR b) A161 c162 (row_C (HS.get (.tail _ (.tail _ (.head _))))).2.2 (by have := rdR_sn b; omega) (rdR_wf _)).mono ?_
          rintro e w169 ⟨A167, c168, rfl, hk_⟩
          replace HS := HS.more hk_
          clear hk_
          refine ⟨_, rfl, ?_⟩
          refine p_run _ (x_move (.tuple [.slice A167 ((bB (rdR b)).length) c168, .int .i64 (bE (rdR b))].toArray) rfl rfl) rfl ?_
          refine p_run _ (x_extract (vs := [.slice A167 ((bB (rdR b)).length) c168, .int .i64 (bE (rdR b))]) 0 (.slice A167 ((bB (rdR b)).length) c168) rfl rfl rfl) rfl ?_
          refine p_run _ (x_extract (vs := [.slice A167 ((bB (rdR b)).length) c168, .int .i64 (bE (rdR b))]) 1 (.int .i64 (bE (rdR b))) rfl rfl rfl) rfl ?_
          refine p_run _ (x_assign (.slice A167 ((bB (rdR b)).length) c168) rfl rfl) rfl ?_
          refine p_run (l' := (.slice A b.length c :: undef :: .pointer (some ⟨g5, 0, none⟩) :: .int .i64 0 :: .pointer (some ⟨g15, 0, none⟩) :: .pointer (some ⟨g23, 0, none⟩) :: u6 :: .slice A167 ((bB (rdR b)).length) c168 :: .int .i64 (bE (rdR b)) :: .slice A b.length c :: .pointer (some ⟨g13, 0, none⟩) :: .agg ([.pointer (some ⟨g13, 0, none⟩)] : List Value).toArray :: .pointer (some ⟨g15, 0, none⟩) :: .pointer (some ⟨g13, 0, none⟩) :: .int .u64 (rn 4 (b, false)) :: .int .u32 (rn 4 (b, false)) :: V8.l qz44 (V8.l qz51 (V8.l qz71 (V8.l qz121 (V8.l qz122 (V8.l qz123 (V8.l qz136 (V8.l qz143 (V8.l qz156 (.int .i64 (rn 1 (k15 b) - 1) :: .pointer (some ⟨g23, 8, none⟩) :: .pointer (some ⟨g23, 15, none⟩) :: .tuple [.slice A167 ((bB (rdR b)).length) c168, .int .i64 (bE (rdR b))].toArray :: rcV (rdR b) A161 c162 :: .tuple [.slice A167 ((bB (rdR b)).length) c168, .int .i64 (bE (rdR b))].toArray :: .slice A167 ((bB (rdR b)).length) c168 :: .int .i64 (bE (rdR b)) :: U8k3 (undef :: undef :: [])))))))))))) _ (x_assign (.int .i64 (bE (rdR b))) rfl rfl) rfl ?_
          refine wpList_nil ?_
          refine hK160 _ _ ?_
          refine wp_seq_k (fun K170 hK171 => ?_)
          refine c_region (fun ops173 hops172 => ?_)
          refine p_run _ (x_move (.int .i64 (bE (rdR b))) rfl rfl) rfl ?_
          refine p_run _ (x_cmp (k := .i64) (m := (bE (rdR b))) (n := 0) .neq ((bE (rdR b)) != 0) rfl rfl rfl rfl rfl) rfl ?_
          refine p_run _ (x_move (.bool ((bE (rdR b)) != 0)) rfl rfl) rfl ?_
          obtain ⟨bz174, hbz174⟩ : ∃ b_, b_ = (((bE (rdR b)) != 0)) := ⟨_, rfl⟩
          rw [← hbz174]
          refine p_tail 5 (fun a_ w_ => ∃ (uz99 uz100 uz101 uz102 : Value) (qz176 qz177 : V8) (bz175 : Bool), a_ = fr (.slice A b.length c :: undef :: .pointer (some ⟨g5, 0, none⟩) :: .int .i64 0 :: .pointer (some ⟨g15, 0, none⟩) :: .pointer (some ⟨g23, 0, none⟩) :: u6 :: .slice A167 ((bB (rdR b)).length) c168 :: V8.l qz176 (V8.l qz44 (V8.l qz51 (V8.l qz71 (V8.l qz121 (V8.l qz122 (V8.l qz123 (V8.l qz136 (V8.l qz143 (V8.l qz156 (V8.l qz177 (.int .i64 (bE (rdR b)) :: .bool bz174 :: .bool bz174 :: uz99 :: uz100 :: uz101 :: uz102 :: .bool bz175 :: undef :: undef :: [])))))))))))) ∧ bz175 = (bz174 || (!(decide (bB (rdR b) = b)))) ∧ St w (fun _ => False) w_ ([row kByte rfl 5 (.slice A167 ((bB (rdR b)).length) c168) (bB (rdR b)), blk g23 (.int .u32 ((rdR b).e) :: .bool ((rdR b).p) :: .int .u32 ((rdR b).b) :: .int .u32 ((rdR b).q) :: .int .i64 ((rdR b).l) :: .int .u32 ((rdR b).xe) :: .int .u32 ((rdR b).xq) :: .slice A161 ((rdR b).sn.length) c162 :: .int .u64 ((rdR b).s) :: .int .u32 ((rdR b).te) :: .int .u32 ((rdR b).tq) :: .int .u32 ((rdR b).be) :: .int .u32 ((rdR b).bq) :: .int .i64 ((rdR b).nx) :: .int .i64 ((rdR b).tt) :: .int .i64 ((rdR b).rt) :: []) 34, rdr g12 g13 (k16 b), row kSn rfl 48 (.slice A161 ((rdR b).sn.length) c162) ((rdR b).sn), blk g15 [.pointer (some ⟨g13, 0, none⟩)] 65, blk g5 (.int .u32 0 :: .bool false :: .int .u32 0 :: .int .u32 0 :: .int .i64 0 :: .int .u32 0 :: .int .u32 0 :: .slice none 0 0 :: .int .u64 0 :: .int .u32 0 :: .int .u32 0 :: .int .u32 0 :: .int .u32 0 :: .int .i64 0 :: .int .i64 0 :: .int .i64 0 :: []) 34])) (fun T178 => ?_) ?_
          · cases bz174
            · skip
              refine p_on rfl (by rw [hops172]; rfl) ?_
              refine p_run _ (x_move (.slice A167 ((bB (rdR b)).length) c168) rfl rfl) rfl ?_
              refine p_on rfl (by rw [hops172]; rfl) ?_
              refine p_run _ (x_move (.slice A b.length c) rfl rfl) rfl ?_
              refine p_on rfl (by rw [hops172]; rfl) ?_
              refine w_call [.slice A167 ((bB (rdR b)).length) c168, .slice A b.length c] Try.func30 (by kernel_rfl) (by rfl) rfl ?_
              refine (beq_any _ A167 c168 (bB (rdR b)) (row_rd (HS.get (.head _))).2.2 A c b ((hr.below HS.belowOf).rd) (by have := @bB_le (rdR b); omega) hl).mono ?_
              rintro e w179 ⟨rfl, hb_⟩
              replace HS := HS.here hb_
              clear hb_
              refine ⟨_, rfl, ?_⟩
              refine p_on rfl (by rw [hops172]; rfl) ?_
              refine p_run _ (x_not (decide (bB (rdR b) = b)) rfl rfl) rfl ?_
              refine p_run _ (x_pick false (.bool true) (.bool (!(decide (bB (rdR b) = b)))) (.bool (!(decide (bB (rdR b) = b)))) rfl rfl rfl rfl rfl) rfl ?_
              exact T178 _ _ ⟨(.slice A167 ((bB (rdR b)).length) c168), (.slice A b.length c), (.bool (decide (bB (rdR b) = b))), (.bool (!(decide (bB (rdR b) = b)))), ⟨.int .i64 (bE (rdR b)), .slice A b.length c, .pointer (some ⟨g13, 0, none⟩), .agg ([.pointer (some ⟨g13, 0, none⟩)] : List Value).toArray, .pointer (some ⟨g15, 0, none⟩), .pointer (some ⟨g13, 0, none⟩), .int .u64 (rn 4 (b, false)), .int .u32 (rn 4 (b, false))⟩, ⟨.int .i64 (rn 1 (k15 b) - 1), .pointer (some ⟨g23, 8, none⟩), .pointer (some ⟨g23, 15, none⟩), .tuple [.slice A167 ((bB (rdR b)).length) c168, .int .i64 (bE (rdR b))].toArray, rcV (rdR b) A161 c162, .tuple [.slice A167 ((bB (rdR b)).length) c168, .int .i64 (bE (rdR b))].toArray, .slice A167 ((bB (rdR b)).length) c168, .int .i64 (bE (rdR b))⟩, (!(decide (bB (rdR b) = b))), rfl, rfl, HS⟩
            · skip
              refine p_off (by rw [hops172]; rfl) rfl ?_
              refine p_off (by rw [hops172]; rfl) rfl ?_
              refine p_off (by rw [hops172]; rfl) rfl ?_
              refine p_off (by rw [hops172]; rfl) rfl ?_
              refine p_run _ (x_pick true (.bool true) (undef) (.bool true) rfl rfl rfl rfl rfl) rfl ?_
              exact T178 _ _ ⟨undef, undef, undef, undef, ⟨.int .i64 (bE (rdR b)), .slice A b.length c, .pointer (some ⟨g13, 0, none⟩), .agg ([.pointer (some ⟨g13, 0, none⟩)] : List Value).toArray, .pointer (some ⟨g15, 0, none⟩), .pointer (some ⟨g13, 0, none⟩), .int .u64 (rn 4 (b, false)), .int .u32 (rn 4 (b, false))⟩, ⟨.int .i64 (rn 1 (k15 b) - 1), .pointer (some ⟨g23, 8, none⟩), .pointer (some ⟨g23, 15, none⟩), .tuple [.slice A167 ((bB (rdR b)).length) c168, .int .i64 (bE (rdR b))].toArray, rcV (rdR b) A161 c162, .tuple [.slice A167 ((bB (rdR b)).length) c168, .int .i64 (bE (rdR b))].toArray, .slice A167 ((bB (rdR b)).length) c168, .int .i64 (bE (rdR b))⟩, true, rfl, rfl, HS⟩
          clear HS
          rintro _ w_ ⟨uz99, uz100, uz101, uz102, qz176, qz177, bz175, rfl, hbz175, HS⟩
          skip
          clear hops172
          refine wpList_nil ?_
          refine hK171 _ _ ?_
          refine c_cond (t := bz175) rfl (fun hc181 => ?_) (fun hc181 => ?_)
          · rw [hbz175, hbz174] at hc181
            have hrf := rk_of hc181
            refine wp_seq_k (fun K182 hK183 => ?_)
            refine c_region (fun ops185 hops184 => ?_)
            clear hops184
            refine p_run _ (x_build (.int .u32 0 :: .bool false :: .int .u32 0 :: .int .u32 0 :: .int .i64 0 :: .int .u32 0 :: .int .u32 0 :: .slice none 0 0 :: .int .u64 0 :: .int .u32 0 :: .int .u32 0 :: .int .u32 0 :: .int .u32 0 :: .int .i64 0 :: .int .i64 0 :: .int .i64 0 :: []) rfl (by kernel_rfl)) rfl ?_
            refine St.stores (cs' := (.int .u32 0 :: .bool false :: .int .u32 0 :: .int .u32 0 :: .int .i64 0 :: .int .u32 0 :: .int .u32 0 :: .slice none 0 0 :: .int .u64 0 :: .int .u32 0 :: .int .u32 0 :: .int .u32 0 :: .int .u32 0 :: .int .i64 0 :: .int .i64 0 :: .int .i64 0 :: [])) (HS.front 5 rfl) (.int .u32 0 :: .bool false :: .int .u32 0 :: .int .u32 0 :: .int .i64 0 :: .int .u32 0 :: .int .u32 0 :: .slice none 0 0 :: .int .u64 0 :: .int .u32 0 :: .int .u32 0 :: .int .u32 0 :: .int .u32 0 :: .int .i64 0 :: .int .i64 0 :: .int .i64 0 :: []) 16 rfl rfl (by rfl) (by kernel_rfl) rfl (by simp) rfl ?_
            clear HS
            intro w186 HS
            refine p_run _ (x_assign (.int .i64 141) rfl rfl) rfl ?_
            refine wpList_nil ?_
            refine hK183 _ _ ?_
            refine wp_ret ?_
            try simp only [Exit.inBlock, Exit.then]
            refine c_ret (.tuple [.agg ((.int .u32 0 :: .bool false :: .int .u32 0 :: .int .u32 0 :: .int .i64 0 :: .int .u32 0 :: .int .u32 0 :: .slice none 0 0 :: .int .u64 0 :: .int .u32 0 :: .int .u32 0 :: .int .u32 0 :: .int .u32 0 :: .int .i64 0 :: .int .i64 0 :: .int .i64 0 :: []) : List Value).toArray, .int .i64 141].toArray) (r_ct rfl rfl (run_loadVar_aggn (by rfl) (.int .u32 0 :: .bool false :: .int .u32 0 :: .int .u32 0 :: .int .i64 0 :: .int .u32 0 :: .int .u32 0 :: .slice none 0 0 :: .int .u64 0 :: .int .u32 0 :: .int .u32 0 :: .int .u32 0 :: .int .u32 0 :: .int .i64 0 :: .int .i64 0 :: .int .i64 0 :: []) 16 (by kernel_rfl) rfl (bkCells (HS.get (.head _)) 0 _ (whole _))) rfl) ?_
            replace HS := HS.nil kSn rfl 48
            obtain ⟨e1, e2⟩ := rk_no hrf
            rw [e1, e2]
            exact ⟨none, 0, rfl, ((((((HS.front 1 rfl).drop.front 1 rfl).drop.front 1 rfl).drop.front 1 rfl).drop.front 1 rfl).drop.front 1 rfl).drop⟩
          · rw [hbz175, hbz174] at hc181
            have hrf := rk_of hc181
            refine wp_skip ?_
            refine hK158 _ _ ?_
            refine wp_seq_k (fun K187 hK188 => ?_)
            refine c_region (fun ops190 hops189 => ?_)
            clear hops189
            refine p_run _ (x_loads (.int .u32 ((rdR b).e) :: .bool ((rdR b).p) :: .int .u32 ((rdR b).b) :: .int .u32 ((rdR b).q) :: .int .i64 ((rdR b).l) :: .int .u32 ((rdR b).xe) :: .int .u32 ((rdR b).xq) :: .slice A161 ((rdR b).sn.length) c162 :: .int .u64 ((rdR b).s) :: .int .u32 ((rdR b).te) :: .int .u32 ((rdR b).tq) :: .int .u32 ((rdR b).be) :: .int .u32 ((rdR b).bq) :: .int .i64 ((rdR b).nx) :: .int .i64 ((rdR b).tt) :: .int .i64 ((rdR b).rt) :: []) 16 rfl rfl (bkCells (HS.get (.tail _ (.head _))) 0 _ rfl) (by rfl) (by kernel_rfl) rfl) rfl ?_
            refine St.stores (cs' := (.int .u32 ((rdR b).e) :: .bool ((rdR b).p) :: .int .u32 ((rdR b).b) :: .int .u32 ((rdR b).q) :: .int .i64 ((rdR b).l) :: .int .u32 ((rdR b).xe) :: .int .u32 ((rdR b).xq) :: .slice A161 ((rdR b).sn.length) c162 :: .int .u64 ((rdR b).s) :: .int .u32 ((rdR b).te) :: .int .u32 ((rdR b).tq) :: .int .u32 ((rdR b).be) :: .int .u32 ((rdR b).bq) :: .int .i64 ((rdR b).nx) :: .int .i64 ((rdR b).tt) :: .int .i64 ((rdR b).rt) :: [])) (HS.front 5 rfl) (.int .u32 ((rdR b).e) :: .bool ((rdR b).p) :: .int .u32 ((rdR b).b) :: .int .u32 ((rdR b).q) :: .int .i64 ((rdR b).l) :: .int .u32 ((rdR b).xe) :: .int .u32 ((rdR b).xq) :: .slice A161 ((rdR b).sn.length) c162 :: .int .u64 ((rdR b).s) :: .int .u32 ((rdR b).te) :: .int .u32 ((rdR b).tq) :: .int .u32 ((rdR b).be) :: .int .u32 ((rdR b).bq) :: .int .i64 ((rdR b).nx) :: .int .i64 ((rdR b).tt) :: .int .i64 ((rdR b).rt) :: []) 16 rfl rfl (by rfl) (by kernel_rfl) rfl (by simp) rfl ?_
            clear HS
            intro w191 HS
            refine p_run _ (x_assign (.int .i64 0) rfl rfl) rfl ?_
            refine wpList_nil ?_
            obtain ⟨qz192, hqz192⟩ : ∃ q_ : V8, q_ = ⟨.int .i64 (bE (rdR b)), .bool bz174, .bool bz174, uz99, uz100, uz101, uz102, .bool bz175⟩ := ⟨_, rfl⟩
            refine fr_at (l' := (.slice A b.length c :: undef :: .pointer (some ⟨g5, 0, none⟩) :: .int .i64 0 :: .pointer (some ⟨g15, 0, none⟩) :: .pointer (some ⟨g23, 0, none⟩) :: u6 :: .slice A167 ((bB (rdR b)).length) c168 :: V8.l qz176 (V8.l qz44 (V8.l qz51 (V8.l qz71 (V8.l qz121 (V8.l qz122 (V8.l qz123 (V8.l qz136 (V8.l qz143 (V8.l qz156 (V8.l qz177 (V8.l qz192 (undef :: rcV (rdR b) A161 c162 :: [])))))))))))))) (by subst hqz192; rfl) ?_
            refine hK188 _ _ ?_
            refine wp_ret ?_
            try simp only [Exit.inBlock, Exit.then]
            refine c_ret (.tuple [rcV (rdR b) A161 c162, .int .i64 0].toArray) (r_ct rfl rfl (run_loadVar_aggn (by rfl) (.int .u32 ((rdR b).e) :: .bool ((rdR b).p) :: .int .u32 ((rdR b).b) :: .int .u32 ((rdR b).q) :: .int .i64 ((rdR b).l) :: .int .u32 ((rdR b).xe) :: .int .u32 ((rdR b).xq) :: .slice A161 ((rdR b).sn.length) c162 :: .int .u64 ((rdR b).s) :: .int .u32 ((rdR b).te) :: .int .u32 ((rdR b).tq) :: .int .u32 ((rdR b).be) :: .int .u32 ((rdR b).bq) :: .int .i64 ((rdR b).nx) :: .int .i64 ((rdR b).tt) :: .int .i64 ((rdR b).rt) :: []) 16 (by kernel_rfl) rfl (bkCells (HS.get (.head _)) 0 _ (whole _))) rfl) ?_
            obtain ⟨e1, e2⟩ := rk_yes hrf
            rw [e1, e2]
            exact ⟨_, _, rfl, (HS.drop.drop.drop.drop.front 1 rfl).drop⟩
end Go.Proofs.Ytkiiangookibnaa
