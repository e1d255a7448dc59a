/- RootTurns. -/
import Derived.Test.YtenlkobjldhfgaaL5a
set_option linter.unusedVariables false
set_option linter.unusedSimpArgs false
namespace Go.Proofs.Ytenlkobjldhfgaa
open Go.RowKit Go.Proofs.YtenlkobjldhfgaaW.PrintWords Go.Proofs.YtenlkobjldhfgaaW.PrintLast Crc
abbrev U4l5t (l : List Value) : List Value := undef :: undef :: undef :: undef :: l
abbrev U8l5t (l : List Value) : List Value := U4l5t (U4l5t l)
abbrev U16l5t (l : List Value) : List Value := U8l5t (U8l5t l)
abbrev U32l5t (l : List Value) : List Value := U16l5t (U16l5t l)
abbrev U64l5t (l : List Value) : List Value := U32l5t (U32l5t l)
theorem turns_nx {q0 q1 : List UInt8} {g : UInt64} (h1 : lkT q0 q1 = g) (h2 : lkG q0 q1 = g) : nX q0 q1 = g.toNat + 1 := by
  unfold nX nxN
  rw [h1, h2, if_neg (by omega)]
theorem rcell_below {w w1 : World} (hb : Below w.heap.size w w1) {a : Addr} {v : Value} (h : w.cell? a = some v) : w1.cell? a = some v := by
  have hlt : a.block < w.heap.size := by
    rcases Nat.lt_or_ge a.block w.heap.size with h' | h'
    · exact h'
    · rw [World.cell?, Array.getElem?_eq_none h'] at h; cases h
  rw [← h]
  exact World.cell?_of_block (hb.block _ hlt)

set_option maxRecDepth 10000 in
set_option maxHeartbeats 8000000 in
theorem rturns_law (w : World) (A0 : Option Addr) (c0 : Nat) (l0 : List (List UInt8)) (hr0 : Rds w A0 l0) : Calls Try.prog 4 #[.slice A0 l0.length c0] w fun e w' => e = .returned (.bool true) ∧ Below w.heap.size w w' := by
  have HS := St.empty w
  · skip
    by_cases h0 : (l0.length : Int) > 30
    · skip
      have h0d := decide_eq_true h0
      refine c_enter Try.func4 rfl 87 rfl (.slice A0 l0.length c0 :: U64l5t (U16l5t (U4l5t (undef :: undef :: [])))) rfl ?_
      refine wp_seq_k (fun K1 hK2 => ?_)
      refine c_region (fun ops4 hops3 => ?_)
      clear hops3
      refine p_run _ (x_assign (.bool false) rfl rfl) rfl ?_
      refine wpList_nil ?_
      refine hK2 _ _ ?_
      refine wp_seq_k (fun K5 hK6 => ?_)
      refine wp_seq_k (fun K7 hK8 => ?_)
      refine c_region (fun ops10 hops9 => ?_)
      clear hops9
      refine w_call [] Try.func12 (by kernel_rfl) (by rfl) rfl ?_
      refine (ralive_any _).mono ?_
      rintro e w11 ⟨rfl, hb_⟩
      replace HS := HS.here hb_
      clear hb_
      refine ⟨_, rfl, ?_⟩
      refine p_run _ (x_not true rfl rfl) rfl ?_
      refine wpList_nil ?_
      refine hK8 _ _ ?_
      refine c_false rfl ?_
      refine wp_skip ?_
      refine hK6 _ _ ?_
      refine wp_seq_k (fun K12 hK13 => ?_)
      refine wp_seq_k (fun K14 hK15 => ?_)
      refine c_region (fun ops17 hops16 => ?_)
      clear hops16
      refine p_run _ (x_move (.slice A0 l0.length c0) rfl rfl) rfl ?_
      refine p_run _ (x_len rfl rfl Try.underlying33) rfl ?_
      refine p_run _ (x_cmp (k := .i64) (m := (l0.length : Int)) (n := 30) .gtr true rfl rfl rfl h0d rfl) rfl ?_
      refine wpList_nil ?_
      refine fr_at (l' := (.slice A0 l0.length c0 :: undef :: .bool false :: U8l5t (undef :: undef :: undef :: .bool true :: .bool false :: .slice A0 l0.length c0 :: .int .i64 (l0.length : Int) :: .bool true :: U64l5t (U4l5t ([]))))) rfl ?_
      refine hK15 _ _ ?_
      refine c_true rfl ?_
      refine wp_seq_k (fun K18 hK19 => ?_)
      refine c_region (fun ops21 hops20 => ?_)
      clear hops20
      refine p_run _ (x_assign (.bool true) rfl rfl) rfl ?_
      refine wpList_nil ?_
      refine hK19 _ _ ?_
      refine wp_ret ?_
      try simp only [Exit.inBlock, Exit.then]
      refine c_ret (.bool true) (r_tmp rfl rfl) ?_
      exact ⟨rfl, HS.belowOf⟩
    · skip
      have h0d := decide_eq_false h0
      · skip
        refine c_enter Try.func4 rfl 87 rfl (.slice A0 l0.length c0 :: U64l5t (U16l5t (U4l5t (undef :: undef :: [])))) rfl ?_
        refine wp_seq_k (fun K1 hK2 => ?_)
        refine c_region (fun ops4 hops3 => ?_)
        clear hops3
        refine p_run _ (x_assign (.bool false) rfl rfl) rfl ?_
        refine wpList_nil ?_
        refine hK2 _ _ ?_
        refine wp_seq_k (fun K5 hK6 => ?_)
        refine wp_seq_k (fun K7 hK8 => ?_)
        refine c_region (fun ops10 hops9 => ?_)
        clear hops9
        refine w_call [] Try.func12 (by kernel_rfl) (by rfl) rfl ?_
        refine (ralive_any _).mono ?_
        rintro e w11 ⟨rfl, hb_⟩
        replace HS := HS.here hb_
        clear hb_
        refine ⟨_, rfl, ?_⟩
        refine p_run _ (x_not true rfl rfl) rfl ?_
        refine wpList_nil ?_
        refine hK8 _ _ ?_
        refine c_false rfl ?_
        refine wp_skip ?_
        refine hK6 _ _ ?_
        refine wp_seq_k (fun K12 hK13 => ?_)
        refine wp_seq_k (fun K14 hK15 => ?_)
        refine c_region (fun ops17 hops16 => ?_)
        clear hops16
        refine p_run _ (x_move (.slice A0 l0.length c0) rfl rfl) rfl ?_
        refine p_run _ (x_len rfl rfl Try.underlying33) rfl ?_
        refine p_run _ (x_cmp (k := .i64) (m := (l0.length : Int)) (n := 30) .gtr false rfl rfl rfl h0d rfl) rfl ?_
        refine wpList_nil ?_
        refine fr_at (l' := (.slice A0 l0.length c0 :: undef :: .bool false :: U8l5t (undef :: undef :: undef :: .bool true :: .bool false :: .slice A0 l0.length c0 :: .int .i64 (l0.length : Int) :: .bool false :: U64l5t (U4l5t ([]))))) rfl ?_
        refine hK15 _ _ ?_
        refine c_false rfl ?_
        refine wp_skip ?_
        refine hK13 _ _ ?_
        refine wp_seq_k (fun K18 hK19 => ?_)
        refine c_region (fun ops21 hops20 => ?_)
        clear hops20
        refine w_call [.int .i64 2] Try.func8 (by kernel_rfl) (by rfl) rfl ?_
        refine (dnew_any HS 2).mono ?_
        clear HS
        rintro e w25 ⟨D22, gs23, gm24, rfl, HS⟩
        have hgd26 := good_new 2
        have hR27 : RT (Dk.new 2) zP zP := rt_new (by omega)
        refine ⟨_, rfl, ?_⟩
        refine p_run _ (x_assign (.pointer (some ⟨D22, 0, none⟩)) rfl rfl) rfl ?_
        refine wpList_nil ?_
        refine hK19 _ _ ?_
        refine wp_seq_k (fun K28 hK29 => ?_)
        refine c_region (fun ops31 hops30 => ?_)
        clear hops30
        refine p_run _ (x_assign (.int .u64 0) rfl rfl) rfl ?_
        refine wpList_nil ?_
        refine hK29 _ _ ?_
        refine wp_seq_k (fun K32 hK33 => ?_)
        refine wp_seq_k (fun K34 hK35 => ?_)
        refine c_region (fun ops37 hops36 => ?_)
        clear hops36
        refine p_run _ (x_move (.slice A0 l0.length c0) rfl rfl) rfl ?_
        refine p_run _ (x_len rfl rfl Try.underlying33) rfl ?_
        refine p_run _ (x_move (.int .i64 0) rfl rfl) rfl ?_
        refine wpList_nil ?_
        refine fr_at (l' := (.slice A0 l0.length c0 :: undef :: .bool false :: .pointer (some ⟨D22, 0, none⟩) :: .int .u64 0 :: U8l5t (undef :: .bool true :: .bool false :: .slice A0 l0.length c0 :: .int .i64 (l0.length : Int) :: .bool false :: .pointer (some ⟨D22, 0, none⟩) :: .slice A0 l0.length c0 :: .int .i64 (l0.length : Int) :: .int .i64 0 :: U64l5t ([])))) rfl ?_
        refine hK35 _ _ ?_
        refine wp_block ?_
        refine c_loop (ι := Nat × Dk × Value × List UInt8 × List UInt8 × UInt64) (fun i_ a_ w_ => match i_ with | (i, S, v, q0, q1, g) => ∃ (uq38 : Value × Value × Value × Value × Value × Value) (uq39 : Value × Value × Value × Value × Value × Value) (uq40 : Value × Value × Value × Value × Value × Value) (uq41 : Value × Value × Value × Value × Value × Value) (uq42 : Value × Value × Value × Value × Value × Value) (uq43 : Value × Value × Value × Value × Value × Value) (uq44 : Value × Value × Value × Value × Value × Value) (uq45 : Value × Value × Value × Value × Value × Value) (uq46 : Value × Value × Value × Value × Value × Value) (uq47 : Value × Value × Value × Value × Value × Value) (uq48 : Value × Value × Value × Value × Value × Value) (uq49 : Value × Value × Value × Value × Value × Value) (uq50 : Value), a_ = fr (.slice A0 l0.length c0 :: undef :: uq38.1 :: .pointer (some ⟨D22, 0, none⟩) :: .int .u64 (uv g) :: undef :: uq38.2.1 :: uq38.2.2.1 :: uq38.2.2.2.1 :: uq38.2.2.2.2.1 :: uq38.2.2.2.2.2 :: uq39.1 :: uq39.2.1 :: uq39.2.2.1 :: .bool true :: .bool false :: .slice A0 l0.length c0 :: .int .i64 (l0.length : Int) :: .bool false :: .pointer (some ⟨D22, 0, none⟩) :: .slice A0 l0.length c0 :: .int .i64 (l0.length : Int) :: .int .i64 (i : Int) :: uq39.2.2.2.1 :: uq39.2.2.2.2.1 :: uq39.2.2.2.2.2 :: uq40.1 :: uq40.2.1 :: uq40.2.2.1 :: uq40.2.2.2.1 :: uq40.2.2.2.2.1 :: uq40.2.2.2.2.2 :: uq41.1 :: uq41.2.1 :: uq41.2.2.1 :: uq41.2.2.2.1 :: uq41.2.2.2.2.1 :: uq41.2.2.2.2.2 :: uq42.1 :: uq42.2.1 :: uq42.2.2.1 :: uq42.2.2.2.1 :: uq42.2.2.2.2.1 :: uq42.2.2.2.2.2 :: uq43.1 :: uq43.2.1 :: uq43.2.2.1 :: uq43.2.2.2.1 :: uq43.2.2.2.2.1 :: uq43.2.2.2.2.2 :: uq44.1 :: uq44.2.1 :: uq44.2.2.1 :: uq44.2.2.2.1 :: uq44.2.2.2.2.1 :: uq44.2.2.2.2.2 :: uq45.1 :: uq45.2.1 :: uq45.2.2.1 :: uq45.2.2.2.1 :: uq45.2.2.2.2.1 :: uq45.2.2.2.2.2 :: uq46.1 :: uq46.2.1 :: uq46.2.2.1 :: uq46.2.2.2.1 :: uq46.2.2.2.2.1 :: uq46.2.2.2.2.2 :: uq47.1 :: uq47.2.1 :: uq47.2.2.1 :: uq47.2.2.2.1 :: uq47.2.2.2.2.1 :: uq47.2.2.2.2.2 :: uq48.1 :: uq48.2.1 :: uq48.2.2.1 :: uq48.2.2.2.1 :: uq48.2.2.2.2.1 :: uq48.2.2.2.2.2 :: uq49.1 :: uq49.2.1 :: uq49.2.2.1 :: uq49.2.2.2.1 :: uq49.2.2.2.2.1 :: uq49.2.2.2.2.2 :: uq50 :: []) ∧ St w (fun _ => False) w_ ([blk D22 (dskC gs23 gm24 v S) 72, blk gs23 (pgs S.stable) 38, mapR gm24 S.cnt S.bad, row kWr rfl 78 v S.pending]) ∧ (RT S q0 q1 ∧ S.good i ∧ lkT q0 q1 = g ∧ lkG q0 q1 = g ∧ g.toNat ≤ i ∧ i ≤ l0.length)) (fun i_ => match i_ with | (i, S, v, q0, q1, g) => l0.length - i) (0, (Dk.new 2), .slice none 0 0, zP, zP, 0) ?_ ?_
        · exact ⟨(.bool false, undef, undef, undef, undef, undef), (undef, undef, undef, undef, undef, undef), (undef, undef, undef, undef, undef, undef), (undef, undef, undef, undef, undef, undef), (undef, undef, undef, undef, undef, undef), (undef, undef, undef, undef, undef, undef), (undef, undef, undef, undef, undef, undef), (undef, undef, undef, undef, undef, undef), (undef, undef, undef, undef, undef, undef), (undef, undef, undef, undef, undef, undef), (undef, undef, undef, undef, undef, undef), (undef, undef, undef, undef, undef, undef), undef, rfl, ((((HS.front 3 rfl).front 3 rfl).front 3 rfl).front 3 rfl), ⟨hR27, good_new 2, z_top, z_gen, Nat.le_refl _, Nat.zero_le _⟩⟩
        · clear HS
          rintro ⟨i, S, v, q0, q1, g⟩ a_ w53 ⟨uq38, uq39, uq40, uq41, uq42, uq43, uq44, uq45, uq46, uq47, uq48, uq49, uq50, rfl, HS, hI⟩ J51 hJ52
          obtain ⟨hR, hg, hT, hG, hgi, hil⟩ := hI
          have hG0 := hG
          refine wp_seq_k (fun K54 hK55 => ?_)
          refine c_region (fun ops57 hops56 => ?_)
          clear hops56
          refine p_run _ (x_cmp (k := .i64) (m := (i : Int)) (n := (l0.length : Int)) .lss (decide ((i : Int) < (l0.length : Int))) rfl rfl rfl rfl rfl) rfl ?_
          refine wpList_nil ?_
          refine hK55 _ _ ?_
          refine wp_seq_k (fun K58 hK59 => ?_)
          refine c_cond (t := decide ((i : Int) < (l0.length : Int))) rfl (fun hc60 => ?_) (fun hc60 => ?_)
          · have hlt : i < l0.length := by have := of_decide_eq_true hc60; omega
            have ht : (lkT q0 q1).toNat ≤ 18446744073709551612 := by rw [hT]; omega
            obtain ⟨n1, n2, n3, n4⟩ := nx_vals (rt_lkE hR) ht
            have hnx := turns_nx hT hG
            obtain ⟨ad, B, c, rfl, hcell0, hcx, hrx⟩ := Rds.at hr0 i hlt
            have hcell := rcell_below HS.belowOf hcell0
            obtain ⟨xs, hxs⟩ : ∃ xs, l0[i] = xs := ⟨_, rfl⟩
            rw [hxs] at hcell hcx hrx
            refine wp_skip ?_
            refine hK59 _ _ ?_
            refine wp_seq_k (fun K61 hK62 => ?_)
            refine wp_block ?_
            refine wp_seq_k (fun K63 hK64 => ?_)
            refine c_region (fun ops66 hops65 => ?_)
            clear hops65
            refine p_run _ (x_index (A := ad) (j := i * 1) (sz := 1) rfl rfl rfl Try.underlying33 (by kernel_rfl) (by omega) rfl) rfl ?_
            refine p_run _ (x_load (.slice B xs.length c) rfl rfl (by rw [Nat.mul_one]; exact hcell) (by rfl)) rfl ?_
            refine p_run _ (x_assign (.slice B xs.length c) rfl rfl) rfl ?_
            refine wpList_nil ?_
            refine hK64 _ _ ?_
            refine wp_seq_k (fun K67 hK68 => ?_)
            by_cases hx : xs.length ≤ 186
            · skip
              refine c_region (fun ops70 hops69 => ?_)
              clear hops69
              refine p_run _ (x_move (.pointer (some ⟨D22, 0, none⟩)) rfl rfl) rfl ?_
              refine w_call [.pointer (some ⟨D22, 0, none⟩)] Try.func11 (by kernel_rfl) (by rfl) rfl ?_
              replace HS := ((((HS.front 3 rfl).front 3 rfl).front 3 rfl).front 3 rfl)
              refine (next_root HS hg (by omega) (rt_p0 hR) (rt_p1 hR) hR.l0 hR.l1).mono ?_
              clear HS
              rintro e w71 ⟨rfl, HS⟩
              refine ⟨_, rfl, ?_⟩
              refine p_run (l' := (.slice (some ad) l0.length c0 :: undef :: uq38.1 :: .pointer (some ⟨D22, 0, none⟩) :: .int .u64 (uv g) :: undef :: .slice B xs.length c :: uq38.2.2.1 :: uq38.2.2.2.1 :: uq38.2.2.2.2.1 :: uq38.2.2.2.2.2 :: uq39.1 :: uq39.2.1 :: uq39.2.2.1 :: .bool true :: .bool false :: .slice (some ad) l0.length c0 :: .int .i64 (l0.length : Int) :: .bool false :: .pointer (some ⟨D22, 0, none⟩) :: .slice (some ad) l0.length c0 :: .int .i64 (l0.length : Int) :: .int .i64 (i : Int) :: .bool (decide ((i : Int) < (l0.length : Int))) :: .pointer (some ((ad).add (i * 1))) :: .slice B xs.length c :: .tuple [.int .u64 (uv (nG S q0 q1)), .int .i64 (nE S q0 q1)].toArray :: .pointer (some ⟨D22, 0, none⟩) :: .tuple [.int .u64 (uv (nG S q0 q1)), .int .i64 (nE S q0 q1)].toArray :: uq40.2.2.2.1 :: uq40.2.2.2.2.1 :: uq40.2.2.2.2.2 :: uq41.1 :: uq41.2.1 :: uq41.2.2.1 :: uq41.2.2.2.1 :: uq41.2.2.2.2.1 :: uq41.2.2.2.2.2 :: uq42.1 :: uq42.2.1 :: uq42.2.2.1 :: uq42.2.2.2.1 :: uq42.2.2.2.2.1 :: uq42.2.2.2.2.2 :: uq43.1 :: uq43.2.1 :: uq43.2.2.1 :: uq43.2.2.2.1 :: uq43.2.2.2.2.1 :: uq43.2.2.2.2.2 :: uq44.1 :: uq44.2.1 :: uq44.2.2.1 :: uq44.2.2.2.1 :: uq44.2.2.2.2.1 :: uq44.2.2.2.2.2 :: uq45.1 :: uq45.2.1 :: uq45.2.2.1 :: uq45.2.2.2.1 :: uq45.2.2.2.2.1 :: uq45.2.2.2.2.2 :: uq46.1 :: uq46.2.1 :: uq46.2.2.1 :: uq46.2.2.2.1 :: uq46.2.2.2.2.1 :: uq46.2.2.2.2.2 :: uq47.1 :: uq47.2.1 :: uq47.2.2.1 :: uq47.2.2.2.1 :: uq47.2.2.2.2.1 :: uq47.2.2.2.2.2 :: uq48.1 :: uq48.2.1 :: uq48.2.2.1 :: uq48.2.2.2.1 :: uq48.2.2.2.2.1 :: uq48.2.2.2.2.2 :: uq49.1 :: uq49.2.1 :: uq49.2.2.1 :: uq49.2.2.2.1 :: uq49.2.2.2.2.1 :: uq49.2.2.2.2.2 :: uq50 :: [])) _ (x_move (.tuple [.int .u64 (uv (nG S q0 q1)), .int .i64 (nE S q0 q1)].toArray) rfl rfl) rfl ?_
              refine p_run _ (x_extract (vs := [.int .u64 (uv (nG S q0 q1)), .int .i64 (nE S q0 q1)]) 0 (.int .u64 (uv (nG S q0 q1))) rfl rfl rfl) rfl ?_
              refine p_run _ (x_extract (vs := [.int .u64 (uv (nG S q0 q1)), .int .i64 (nE S q0 q1)]) 1 (.int .i64 (nE S q0 q1)) rfl rfl rfl) rfl ?_
              refine p_run _ (x_assign (.int .u64 (uv (nG S q0 q1))) rfl rfl) rfl ?_
              refine p_run _ (x_assign (.int .i64 (nE S q0 q1)) rfl rfl) rfl ?_
              refine wpList_nil ?_
              refine hK68 _ _ ?_
              refine wp_seq_k (fun K72 hK73 => ?_)
              refine c_region (fun ops75 hops74 => ?_)
              clear hops74
              refine p_run _ (x_move (.pointer (some ⟨D22, 0, none⟩)) rfl rfl) rfl ?_
              refine p_run _ (x_move (.slice B xs.length c) rfl rfl) rfl ?_
              refine w_call [.pointer (some ⟨D22, 0, none⟩), .slice B xs.length c] Try.func10 (by kernel_rfl) (by rfl) rfl ?_
              replace HS := ((((HS.front 3 rfl).front 3 rfl).front 3 rfl).front 3 rfl)
              refine (write_root HS hg (by omega) (rt_p0 hR) (rt_p1 hR) hR.l0 hR.l1 xs (fun w X hX => ⟨Rd.below hrx hX.belowOf, hcx⟩)).mono ?_
              clear HS
              rintro e w77 ⟨v76, rfl, HS⟩
              have hgd78 : Dk.good (wS S q0 q1 xs) (i + 1) := good_wS hg xs
              have hW := wr_all hR ht hx
              refine ⟨_, rfl, ?_⟩
              refine fr_to (l' := (.slice (some ad) l0.length c0 :: undef :: uq38.1 :: .pointer (some ⟨D22, 0, none⟩) :: .int .u64 (uv g) :: undef :: .slice B xs.length c :: .int .u64 (uv (nG S q0 q1)) :: .int .i64 (nE S q0 q1) :: uq38.2.2.2.2.1 :: uq38.2.2.2.2.2 :: uq39.1 :: uq39.2.1 :: uq39.2.2.1 :: .bool true :: .bool false :: .slice (some ad) l0.length c0 :: .int .i64 (l0.length : Int) :: .bool false :: .pointer (some ⟨D22, 0, none⟩) :: .slice (some ad) l0.length c0 :: .int .i64 (l0.length : Int) :: .int .i64 (i : Int) :: .bool (decide ((i : Int) < (l0.length : Int))) :: .pointer (some ((ad).add (i * 1))) :: .slice B xs.length c :: .tuple [.int .u64 (uv (nG S q0 q1)), .int .i64 (nE S q0 q1)].toArray :: .pointer (some ⟨D22, 0, none⟩) :: .tuple [.int .u64 (uv (nG S q0 q1)), .int .i64 (nE S q0 q1)].toArray :: .int .u64 (uv (nG S q0 q1)) :: .int .i64 (nE S q0 q1) :: uq40.2.2.2.2.2 :: .pointer (some ⟨D22, 0, none⟩) :: .slice B xs.length c :: .tuple [.int .u64 (uv (wG S q0 q1 xs)), .int .i64 (wE S q0 q1 xs)].toArray :: uq41.2.2.2.1 :: uq41.2.2.2.2.1 :: uq41.2.2.2.2.2 :: uq42.1 :: uq42.2.1 :: uq42.2.2.1 :: uq42.2.2.2.1 :: uq42.2.2.2.2.1 :: uq42.2.2.2.2.2 :: uq43.1 :: uq43.2.1 :: uq43.2.2.1 :: uq43.2.2.2.1 :: uq43.2.2.2.2.1 :: uq43.2.2.2.2.2 :: uq44.1 :: uq44.2.1 :: uq44.2.2.1 :: uq44.2.2.2.1 :: uq44.2.2.2.2.1 :: uq44.2.2.2.2.2 :: uq45.1 :: uq45.2.1 :: uq45.2.2.1 :: uq45.2.2.2.1 :: uq45.2.2.2.2.1 :: uq45.2.2.2.2.2 :: uq46.1 :: uq46.2.1 :: uq46.2.2.1 :: uq46.2.2.2.1 :: uq46.2.2.2.2.1 :: uq46.2.2.2.2.2 :: uq47.1 :: uq47.2.1 :: uq47.2.2.1 :: uq47.2.2.2.1 :: uq47.2.2.2.2.1 :: uq47.2.2.2.2.2 :: uq48.1 :: uq48.2.1 :: uq48.2.2.1 :: uq48.2.2.2.1 :: uq48.2.2.2.2.1 :: uq48.2.2.2.2.2 :: uq49.1 :: uq49.2.1 :: uq49.2.2.1 :: uq49.2.2.2.1 :: uq49.2.2.2.2.1 :: uq49.2.2.2.2.2 :: uq50 :: [])) rfl ?_
              refine p_run _ (x_move (.tuple [.int .u64 (uv (wG S q0 q1 xs)), .int .i64 (wE S q0 q1 xs)].toArray) rfl rfl) rfl ?_
              refine p_run _ (x_extract (vs := [.int .u64 (uv (wG S q0 q1 xs)), .int .i64 (wE S q0 q1 xs)]) 0 (.int .u64 (uv (wG S q0 q1 xs))) rfl rfl rfl) rfl ?_
              refine p_run _ (x_extract (vs := [.int .u64 (uv (wG S q0 q1 xs)), .int .i64 (wE S q0 q1 xs)]) 1 (.int .i64 (wE S q0 q1 xs)) rfl rfl rfl) rfl ?_
              refine p_run _ (x_assign (.int .u64 (uv (wG S q0 q1 xs))) rfl rfl) rfl ?_
              refine p_run _ (x_assign (.int .i64 (wE S q0 q1 xs)) rfl rfl) rfl ?_
              refine wpList_nil ?_
              refine fr_at (l' := (.slice (some ad) l0.length c0 :: undef :: uq38.1 :: .pointer (some ⟨D22, 0, none⟩) :: .int .u64 (uv g) :: undef :: .slice B xs.length c :: .int .u64 (uv (nG S q0 q1)) :: .int .i64 (nE S q0 q1) :: .int .u64 (uv (wG S q0 q1 xs)) :: .int .i64 (wE S q0 q1 xs) :: uq39.1 :: uq39.2.1 :: uq39.2.2.1 :: .bool true :: .bool false :: .slice (some ad) l0.length c0 :: .int .i64 (l0.length : Int) :: .bool false :: .pointer (some ⟨D22, 0, none⟩) :: .slice (some ad) l0.length c0 :: .int .i64 (l0.length : Int) :: .int .i64 (i : Int) :: .bool (decide ((i : Int) < (l0.length : Int))) :: .pointer (some ((ad).add (i * 1))) :: .slice B xs.length c :: .tuple [.int .u64 (uv (nG S q0 q1)), .int .i64 (nE S q0 q1)].toArray :: .pointer (some ⟨D22, 0, none⟩) :: .tuple [.int .u64 (uv (nG S q0 q1)), .int .i64 (nE S q0 q1)].toArray :: .int .u64 (uv (nG S q0 q1)) :: .int .i64 (nE S q0 q1) :: .tuple [.int .u64 (uv (wG S q0 q1 xs)), .int .i64 (wE S q0 q1 xs)].toArray :: .pointer (some ⟨D22, 0, none⟩) :: .slice B xs.length c :: .tuple [.int .u64 (uv (wG S q0 q1 xs)), .int .i64 (wE S q0 q1 xs)].toArray :: .int .u64 (uv (wG S q0 q1 xs)) :: .int .i64 (wE S q0 q1 xs) :: uq41.2.2.2.2.2 :: uq42.1 :: uq42.2.1 :: uq42.2.2.1 :: uq42.2.2.2.1 :: uq42.2.2.2.2.1 :: uq42.2.2.2.2.2 :: uq43.1 :: uq43.2.1 :: uq43.2.2.1 :: uq43.2.2.2.1 :: uq43.2.2.2.2.1 :: uq43.2.2.2.2.2 :: uq44.1 :: uq44.2.1 :: uq44.2.2.1 :: uq44.2.2.2.1 :: uq44.2.2.2.2.1 :: uq44.2.2.2.2.2 :: uq45.1 :: uq45.2.1 :: uq45.2.2.1 :: uq45.2.2.2.1 :: uq45.2.2.2.2.1 :: uq45.2.2.2.2.2 :: uq46.1 :: uq46.2.1 :: uq46.2.2.1 :: uq46.2.2.2.1 :: uq46.2.2.2.2.1 :: uq46.2.2.2.2.2 :: uq47.1 :: uq47.2.1 :: uq47.2.2.1 :: uq47.2.2.2.1 :: uq47.2.2.2.2.1 :: uq47.2.2.2.2.2 :: uq48.1 :: uq48.2.1 :: uq48.2.2.1 :: uq48.2.2.2.1 :: uq48.2.2.2.2.1 :: uq48.2.2.2.2.2 :: uq49.1 :: uq49.2.1 :: uq49.2.2.1 :: uq49.2.2.2.1 :: uq49.2.2.2.2.1 :: uq49.2.2.2.2.2 :: uq50 :: [])) rfl ?_
              refine hK73 _ _ ?_
              refine wp_seq_k (fun K79 hK80 => ?_)
              refine wp_seq_k (fun K81 hK82 => ?_)
              refine c_region (fun ops84 hops83 => ?_)
              clear hops83
              refine p_run _ (x_move (.slice B xs.length c) rfl rfl) rfl ?_
              refine p_run _ (x_len rfl rfl Try.underlying24) rfl ?_
              refine p_run _ (x_cmp (k := .i64) (m := (xs.length : Int)) (n := 186) .gtr false rfl rfl rfl (show decide _ = false from decide_eq_false (by omega)) rfl) rfl ?_
              refine wpList_nil ?_
              refine hK82 _ _ ?_
              refine c_false rfl ?_
              refine wp_skip ?_
              refine hK80 _ _ ?_
              refine wp_seq_k (fun K85 hK86 => ?_)
              refine c_region (fun ops88 hops87 => ?_)
              clear hops87
              refine p_run _ (x_move (.pointer (some ⟨D22, 0, none⟩)) rfl rfl) rfl ?_
              refine w_call [.pointer (some ⟨D22, 0, none⟩)] Try.func9 (by kernel_rfl) (by rfl) rfl ?_
              replace HS := ((((HS.front 3 rfl).front 3 rfl).front 3 rfl).front 3 rfl)
              refine (read_root HS hgd78 (by omega) (rt_p0 hW.r) (rt_p1 hW.r) hW.r.l0 hW.r.l1).mono ?_
              clear HS
              rintro e w91 ⟨oa89, nc90, rfl, HS⟩
              refine ⟨_, rfl, ?_⟩
              refine p_run _ (x_move (.tuple [.slice oa89 ((rB (wS S q0 q1 xs) (s0 (nX q0 q1 % 2) (nP q0 q1 xs) q0) (s1 (nX q0 q1 % 2) (nP q0 q1 xs) q1)).length) nc90, .int .u64 (uv (rG (wS S q0 q1 xs) (s0 (nX q0 q1 % 2) (nP q0 q1 xs) q0) (s1 (nX q0 q1 % 2) (nP q0 q1 xs) q1))), .int .i64 (reE (wS S q0 q1 xs) (s0 (nX q0 q1 % 2) (nP q0 q1 xs) q0) (s1 (nX q0 q1 % 2) (nP q0 q1 xs) q1))].toArray) rfl rfl) rfl ?_
              refine p_run (l' := (.slice (some ad) l0.length c0 :: undef :: uq38.1 :: .pointer (some ⟨D22, 0, none⟩) :: .int .u64 (uv g) :: undef :: .slice B xs.length c :: .int .u64 (uv (nG S q0 q1)) :: .int .i64 (nE S q0 q1) :: .int .u64 (uv (wG S q0 q1 xs)) :: .int .i64 (wE S q0 q1 xs) :: uq39.1 :: uq39.2.1 :: uq39.2.2.1 :: .bool true :: .bool false :: .slice (some ad) l0.length c0 :: .int .i64 (l0.length : Int) :: .bool false :: .pointer (some ⟨D22, 0, none⟩) :: .slice (some ad) l0.length c0 :: .int .i64 (l0.length : Int) :: .int .i64 (i : Int) :: .bool (decide ((i : Int) < (l0.length : Int))) :: .pointer (some ((ad).add (i * 1))) :: .slice B xs.length c :: .tuple [.int .u64 (uv (nG S q0 q1)), .int .i64 (nE S q0 q1)].toArray :: .pointer (some ⟨D22, 0, none⟩) :: .tuple [.int .u64 (uv (nG S q0 q1)), .int .i64 (nE S q0 q1)].toArray :: .int .u64 (uv (nG S q0 q1)) :: .int .i64 (nE S q0 q1) :: .tuple [.int .u64 (uv (wG S q0 q1 xs)), .int .i64 (wE S q0 q1 xs)].toArray :: .pointer (some ⟨D22, 0, none⟩) :: .slice B xs.length c :: .tuple [.int .u64 (uv (wG S q0 q1 xs)), .int .i64 (wE S q0 q1 xs)].toArray :: .int .u64 (uv (wG S q0 q1 xs)) :: .int .i64 (wE S q0 q1 xs) :: .slice B xs.length c :: .int .i64 (xs.length : Int) :: .bool false :: uq42.2.2.1 :: uq42.2.2.2.1 :: uq42.2.2.2.2.1 :: uq42.2.2.2.2.2 :: uq43.1 :: uq43.2.1 :: .tuple [.slice oa89 ((rB (wS S q0 q1 xs) (s0 (nX q0 q1 % 2) (nP q0 q1 xs) q0) (s1 (nX q0 q1 % 2) (nP q0 q1 xs) q1)).length) nc90, .int .u64 (uv (rG (wS S q0 q1 xs) (s0 (nX q0 q1 % 2) (nP q0 q1 xs) q0) (s1 (nX q0 q1 % 2) (nP q0 q1 xs) q1))), .int .i64 (reE (wS S q0 q1 xs) (s0 (nX q0 q1 % 2) (nP q0 q1 xs) q0) (s1 (nX q0 q1 % 2) (nP q0 q1 xs) q1))].toArray :: .pointer (some ⟨D22, 0, none⟩) :: .tuple [.slice oa89 ((rB (wS S q0 q1 xs) (s0 (nX q0 q1 % 2) (nP q0 q1 xs) q0) (s1 (nX q0 q1 % 2) (nP q0 q1 xs) q1)).length) nc90, .int .u64 (uv (rG (wS S q0 q1 xs) (s0 (nX q0 q1 % 2) (nP q0 q1 xs) q0) (s1 (nX q0 q1 % 2) (nP q0 q1 xs) q1))), .int .i64 (reE (wS S q0 q1 xs) (s0 (nX q0 q1 % 2) (nP q0 q1 xs) q0) (s1 (nX q0 q1 % 2) (nP q0 q1 xs) q1))].toArray :: .slice oa89 ((rB (wS S q0 q1 xs) (s0 (nX q0 q1 % 2) (nP q0 q1 xs) q0) (s1 (nX q0 q1 % 2) (nP q0 q1 xs) q1)).length) nc90 :: uq44.1 :: uq44.2.1 :: uq44.2.2.1 :: uq44.2.2.2.1 :: uq44.2.2.2.2.1 :: uq44.2.2.2.2.2 :: uq45.1 :: uq45.2.1 :: uq45.2.2.1 :: uq45.2.2.2.1 :: uq45.2.2.2.2.1 :: uq45.2.2.2.2.2 :: uq46.1 :: uq46.2.1 :: uq46.2.2.1 :: uq46.2.2.2.1 :: uq46.2.2.2.2.1 :: uq46.2.2.2.2.2 :: uq47.1 :: uq47.2.1 :: uq47.2.2.1 :: uq47.2.2.2.1 :: uq47.2.2.2.2.1 :: uq47.2.2.2.2.2 :: uq48.1 :: uq48.2.1 :: uq48.2.2.1 :: uq48.2.2.2.1 :: uq48.2.2.2.2.1 :: uq48.2.2.2.2.2 :: uq49.1 :: uq49.2.1 :: uq49.2.2.1 :: uq49.2.2.2.1 :: uq49.2.2.2.2.1 :: uq49.2.2.2.2.2 :: uq50 :: [])) _ (x_extract (vs := [.slice oa89 ((rB (wS S q0 q1 xs) (s0 (nX q0 q1 % 2) (nP q0 q1 xs) q0) (s1 (nX q0 q1 % 2) (nP q0 q1 xs) q1)).length) nc90, .int .u64 (uv (rG (wS S q0 q1 xs) (s0 (nX q0 q1 % 2) (nP q0 q1 xs) q0) (s1 (nX q0 q1 % 2) (nP q0 q1 xs) q1))), .int .i64 (reE (wS S q0 q1 xs) (s0 (nX q0 q1 % 2) (nP q0 q1 xs) q0) (s1 (nX q0 q1 % 2) (nP q0 q1 xs) q1))]) 0 (.slice oa89 ((rB (wS S q0 q1 xs) (s0 (nX q0 q1 % 2) (nP q0 q1 xs) q0) (s1 (nX q0 q1 % 2) (nP q0 q1 xs) q1)).length) nc90) rfl rfl rfl) rfl ?_
              refine p_run _ (x_extract (vs := [.slice oa89 ((rB (wS S q0 q1 xs) (s0 (nX q0 q1 % 2) (nP q0 q1 xs) q0) (s1 (nX q0 q1 % 2) (nP q0 q1 xs) q1)).length) nc90, .int .u64 (uv (rG (wS S q0 q1 xs) (s0 (nX q0 q1 % 2) (nP q0 q1 xs) q0) (s1 (nX q0 q1 % 2) (nP q0 q1 xs) q1))), .int .i64 (reE (wS S q0 q1 xs) (s0 (nX q0 q1 % 2) (nP q0 q1 xs) q0) (s1 (nX q0 q1 % 2) (nP q0 q1 xs) q1))]) 1 (.int .u64 (uv (rG (wS S q0 q1 xs) (s0 (nX q0 q1 % 2) (nP q0 q1 xs) q0) (s1 (nX q0 q1 % 2) (nP q0 q1 xs) q1)))) rfl rfl rfl) rfl ?_
              refine p_run _ (x_extract (vs := [.slice oa89 ((rB (wS S q0 q1 xs) (s0 (nX q0 q1 % 2) (nP q0 q1 xs) q0) (s1 (nX q0 q1 % 2) (nP q0 q1 xs) q1)).length) nc90, .int .u64 (uv (rG (wS S q0 q1 xs) (s0 (nX q0 q1 % 2) (nP q0 q1 xs) q0) (s1 (nX q0 q1 % 2) (nP q0 q1 xs) q1))), .int .i64 (reE (wS S q0 q1 xs) (s0 (nX q0 q1 % 2) (nP q0 q1 xs) q0) (s1 (nX q0 q1 % 2) (nP q0 q1 xs) q1))]) 2 (.int .i64 (reE (wS S q0 q1 xs) (s0 (nX q0 q1 % 2) (nP q0 q1 xs) q0) (s1 (nX q0 q1 % 2) (nP q0 q1 xs) q1))) rfl rfl rfl) rfl ?_
              refine p_run _ (x_assign (.slice oa89 ((rB (wS S q0 q1 xs) (s0 (nX q0 q1 % 2) (nP q0 q1 xs) q0) (s1 (nX q0 q1 % 2) (nP q0 q1 xs) q1)).length) nc90) rfl rfl) rfl ?_
              refine p_run _ (x_assign (.int .u64 (uv (rG (wS S q0 q1 xs) (s0 (nX q0 q1 % 2) (nP q0 q1 xs) q0) (s1 (nX q0 q1 % 2) (nP q0 q1 xs) q1)))) rfl rfl) rfl ?_
              refine p_run _ (x_assign (.int .i64 (reE (wS S q0 q1 xs) (s0 (nX q0 q1 % 2) (nP q0 q1 xs) q0) (s1 (nX q0 q1 % 2) (nP q0 q1 xs) q1))) rfl rfl) rfl ?_
              refine wpList_nil ?_
              refine fr_at (l' := (.slice (some ad) l0.length c0 :: undef :: uq38.1 :: .pointer (some ⟨D22, 0, none⟩) :: .int .u64 (uv g) :: undef :: .slice B xs.length c :: .int .u64 (uv (nG S q0 q1)) :: .int .i64 (nE S q0 q1) :: .int .u64 (uv (wG S q0 q1 xs)) :: .int .i64 (wE S q0 q1 xs) :: .slice oa89 ((rB (wS S q0 q1 xs) (s0 (nX q0 q1 % 2) (nP q0 q1 xs) q0) (s1 (nX q0 q1 % 2) (nP q0 q1 xs) q1)).length) nc90 :: .int .u64 (uv (rG (wS S q0 q1 xs) (s0 (nX q0 q1 % 2) (nP q0 q1 xs) q0) (s1 (nX q0 q1 % 2) (nP q0 q1 xs) q1))) :: .int .i64 (reE (wS S q0 q1 xs) (s0 (nX q0 q1 % 2) (nP q0 q1 xs) q0) (s1 (nX q0 q1 % 2) (nP q0 q1 xs) q1)) :: .bool true :: .bool false :: .slice (some ad) l0.length c0 :: .int .i64 (l0.length : Int) :: .bool false :: .pointer (some ⟨D22, 0, none⟩) :: .slice (some ad) l0.length c0 :: .int .i64 (l0.length : Int) :: .int .i64 (i : Int) :: .bool (decide ((i : Int) < (l0.length : Int))) :: .pointer (some ((ad).add (i * 1))) :: .slice B xs.length c :: .tuple [.int .u64 (uv (nG S q0 q1)), .int .i64 (nE S q0 q1)].toArray :: .pointer (some ⟨D22, 0, none⟩) :: .tuple [.int .u64 (uv (nG S q0 q1)), .int .i64 (nE S q0 q1)].toArray :: .int .u64 (uv (nG S q0 q1)) :: .int .i64 (nE S q0 q1) :: .tuple [.int .u64 (uv (wG S q0 q1 xs)), .int .i64 (wE S q0 q1 xs)].toArray :: .pointer (some ⟨D22, 0, none⟩) :: .slice B xs.length c :: .tuple [.int .u64 (uv (wG S q0 q1 xs)), .int .i64 (wE S q0 q1 xs)].toArray :: .int .u64 (uv (wG S q0 q1 xs)) :: .int .i64 (wE S q0 q1 xs) :: .slice B xs.length c :: .int .i64 (xs.length : Int) :: .bool false :: uq42.2.2.1 :: uq42.2.2.2.1 :: uq42.2.2.2.2.1 :: uq42.2.2.2.2.2 :: uq43.1 :: uq43.2.1 :: .tuple [.slice oa89 ((rB (wS S q0 q1 xs) (s0 (nX q0 q1 % 2) (nP q0 q1 xs) q0) (s1 (nX q0 q1 % 2) (nP q0 q1 xs) q1)).length) nc90, .int .u64 (uv (rG (wS S q0 q1 xs) (s0 (nX q0 q1 % 2) (nP q0 q1 xs) q0) (s1 (nX q0 q1 % 2) (nP q0 q1 xs) q1))), .int .i64 (reE (wS S q0 q1 xs) (s0 (nX q0 q1 % 2) (nP q0 q1 xs) q0) (s1 (nX q0 q1 % 2) (nP q0 q1 xs) q1))].toArray :: .pointer (some ⟨D22, 0, none⟩) :: .tuple [.slice oa89 ((rB (wS S q0 q1 xs) (s0 (nX q0 q1 % 2) (nP q0 q1 xs) q0) (s1 (nX q0 q1 % 2) (nP q0 q1 xs) q1)).length) nc90, .int .u64 (uv (rG (wS S q0 q1 xs) (s0 (nX q0 q1 % 2) (nP q0 q1 xs) q0) (s1 (nX q0 q1 % 2) (nP q0 q1 xs) q1))), .int .i64 (reE (wS S q0 q1 xs) (s0 (nX q0 q1 % 2) (nP q0 q1 xs) q0) (s1 (nX q0 q1 % 2) (nP q0 q1 xs) q1))].toArray :: .slice oa89 ((rB (wS S q0 q1 xs) (s0 (nX q0 q1 % 2) (nP q0 q1 xs) q0) (s1 (nX q0 q1 % 2) (nP q0 q1 xs) q1)).length) nc90 :: .int .u64 (uv (rG (wS S q0 q1 xs) (s0 (nX q0 q1 % 2) (nP q0 q1 xs) q0) (s1 (nX q0 q1 % 2) (nP q0 q1 xs) q1))) :: .int .i64 (reE (wS S q0 q1 xs) (s0 (nX q0 q1 % 2) (nP q0 q1 xs) q0) (s1 (nX q0 q1 % 2) (nP q0 q1 xs) q1)) :: uq44.2.2.1 :: uq44.2.2.2.1 :: uq44.2.2.2.2.1 :: uq44.2.2.2.2.2 :: uq45.1 :: uq45.2.1 :: uq45.2.2.1 :: uq45.2.2.2.1 :: uq45.2.2.2.2.1 :: uq45.2.2.2.2.2 :: uq46.1 :: uq46.2.1 :: uq46.2.2.1 :: uq46.2.2.2.1 :: uq46.2.2.2.2.1 :: uq46.2.2.2.2.2 :: uq47.1 :: uq47.2.1 :: uq47.2.2.1 :: uq47.2.2.2.1 :: uq47.2.2.2.2.1 :: uq47.2.2.2.2.2 :: uq48.1 :: uq48.2.1 :: uq48.2.2.1 :: uq48.2.2.2.1 :: uq48.2.2.2.2.1 :: uq48.2.2.2.2.2 :: uq49.1 :: uq49.2.1 :: uq49.2.2.1 :: uq49.2.2.2.1 :: uq49.2.2.2.2.1 :: uq49.2.2.2.2.2 :: uq50 :: [])) rfl ?_
              refine hK86 _ _ ?_
              refine wp_seq_k (fun K92 hK93 => ?_)
              refine wp_seq_k (fun K94 hK95 => ?_)
              refine c_region (fun ops97 hops96 => ?_)
              refine p_run _ (x_move (.int .i64 (nE S q0 q1)) rfl rfl) rfl ?_
              refine p_run _ (x_cmp (k := .i64) (m := (nE S q0 q1)) (n := 0) .neq false rfl rfl rfl (by rw [n1]; rfl) rfl) rfl ?_
              refine p_run _ (x_move (.bool false) rfl rfl) rfl ?_
              refine p_on rfl (by rw [hops96]; rfl) ?_
              refine p_run _ (x_move (.int .i64 (wE S q0 q1 xs)) rfl rfl) rfl ?_
              refine p_on rfl (by rw [hops96]; rfl) ?_
              refine p_run _ (x_cmp (k := .i64) (m := (wE S q0 q1 xs)) (n := 0) .neq false rfl rfl rfl (by rw [hW.e]; rfl) rfl) rfl ?_
              refine p_run _ (x_pick false (.bool true) (.bool false) (.bool false) rfl rfl rfl rfl rfl) rfl ?_
              refine p_run (l' := (.slice (some ad) l0.length c0 :: undef :: uq38.1 :: .pointer (some ⟨D22, 0, none⟩) :: .int .u64 (uv g) :: undef :: .slice B xs.length c :: .int .u64 (uv (nG S q0 q1)) :: .int .i64 (nE S q0 q1) :: .int .u64 (uv (wG S q0 q1 xs)) :: .int .i64 (wE S q0 q1 xs) :: .slice oa89 ((rB (wS S q0 q1 xs) (s0 (nX q0 q1 % 2) (nP q0 q1 xs) q0) (s1 (nX q0 q1 % 2) (nP q0 q1 xs) q1)).length) nc90 :: .int .u64 (uv (rG (wS S q0 q1 xs) (s0 (nX q0 q1 % 2) (nP q0 q1 xs) q0) (s1 (nX q0 q1 % 2) (nP q0 q1 xs) q1))) :: .int .i64 (reE (wS S q0 q1 xs) (s0 (nX q0 q1 % 2) (nP q0 q1 xs) q0) (s1 (nX q0 q1 % 2) (nP q0 q1 xs) q1)) :: .bool true :: .bool false :: .slice (some ad) l0.length c0 :: .int .i64 (l0.length : Int) :: .bool false :: .pointer (some ⟨D22, 0, none⟩) :: .slice (some ad) l0.length c0 :: .int .i64 (l0.length : Int) :: .int .i64 (i : Int) :: .bool (decide ((i : Int) < (l0.length : Int))) :: .pointer (some ((ad).add (i * 1))) :: .slice B xs.length c :: .tuple [.int .u64 (uv (nG S q0 q1)), .int .i64 (nE S q0 q1)].toArray :: .pointer (some ⟨D22, 0, none⟩) :: .tuple [.int .u64 (uv (nG S q0 q1)), .int .i64 (nE S q0 q1)].toArray :: .int .u64 (uv (nG S q0 q1)) :: .int .i64 (nE S q0 q1) :: .tuple [.int .u64 (uv (wG S q0 q1 xs)), .int .i64 (wE S q0 q1 xs)].toArray :: .pointer (some ⟨D22, 0, none⟩) :: .slice B xs.length c :: .tuple [.int .u64 (uv (wG S q0 q1 xs)), .int .i64 (wE S q0 q1 xs)].toArray :: .int .u64 (uv (wG S q0 q1 xs)) :: .int .i64 (wE S q0 q1 xs) :: .slice B xs.length c :: .int .i64 (xs.length : Int) :: .bool false :: uq42.2.2.1 :: uq42.2.2.2.1 :: uq42.2.2.2.2.1 :: uq42.2.2.2.2.2 :: uq43.1 :: uq43.2.1 :: .tuple [.slice oa89 ((rB (wS S q0 q1 xs) (s0 (nX q0 q1 % 2) (nP q0 q1 xs) q0) (s1 (nX q0 q1 % 2) (nP q0 q1 xs) q1)).length) nc90, .int .u64 (uv (rG (wS S q0 q1 xs) (s0 (nX q0 q1 % 2) (nP q0 q1 xs) q0) (s1 (nX q0 q1 % 2) (nP q0 q1 xs) q1))), .int .i64 (reE (wS S q0 q1 xs) (s0 (nX q0 q1 % 2) (nP q0 q1 xs) q0) (s1 (nX q0 q1 % 2) (nP q0 q1 xs) q1))].toArray :: .pointer (some ⟨D22, 0, none⟩) :: .tuple [.slice oa89 ((rB (wS S q0 q1 xs) (s0 (nX q0 q1 % 2) (nP q0 q1 xs) q0) (s1 (nX q0 q1 % 2) (nP q0 q1 xs) q1)).length) nc90, .int .u64 (uv (rG (wS S q0 q1 xs) (s0 (nX q0 q1 % 2) (nP q0 q1 xs) q0) (s1 (nX q0 q1 % 2) (nP q0 q1 xs) q1))), .int .i64 (reE (wS S q0 q1 xs) (s0 (nX q0 q1 % 2) (nP q0 q1 xs) q0) (s1 (nX q0 q1 % 2) (nP q0 q1 xs) q1))].toArray :: .slice oa89 ((rB (wS S q0 q1 xs) (s0 (nX q0 q1 % 2) (nP q0 q1 xs) q0) (s1 (nX q0 q1 % 2) (nP q0 q1 xs) q1)).length) nc90 :: .int .u64 (uv (rG (wS S q0 q1 xs) (s0 (nX q0 q1 % 2) (nP q0 q1 xs) q0) (s1 (nX q0 q1 % 2) (nP q0 q1 xs) q1))) :: .int .i64 (reE (wS S q0 q1 xs) (s0 (nX q0 q1 % 2) (nP q0 q1 xs) q0) (s1 (nX q0 q1 % 2) (nP q0 q1 xs) q1)) :: .int .i64 (nE S q0 q1) :: .bool false :: .bool false :: .int .i64 (wE S q0 q1 xs) :: .bool false :: .bool false :: .bool false :: uq45.2.2.2.1 :: uq45.2.2.2.2.1 :: uq45.2.2.2.2.2 :: uq46.1 :: uq46.2.1 :: uq46.2.2.1 :: uq46.2.2.2.1 :: uq46.2.2.2.2.1 :: uq46.2.2.2.2.2 :: uq47.1 :: uq47.2.1 :: uq47.2.2.1 :: uq47.2.2.2.1 :: uq47.2.2.2.2.1 :: uq47.2.2.2.2.2 :: uq48.1 :: uq48.2.1 :: uq48.2.2.1 :: uq48.2.2.2.1 :: uq48.2.2.2.2.1 :: uq48.2.2.2.2.2 :: uq49.1 :: uq49.2.1 :: uq49.2.2.1 :: uq49.2.2.2.1 :: uq49.2.2.2.2.1 :: uq49.2.2.2.2.2 :: uq50 :: [])) _ (x_move (.bool false) rfl rfl) rfl ?_
              refine p_on rfl (by rw [hops96]; rfl) ?_
              refine p_run _ (x_move (.int .i64 (reE (wS S q0 q1 xs) (s0 (nX q0 q1 % 2) (nP q0 q1 xs) q0) (s1 (nX q0 q1 % 2) (nP q0 q1 xs) q1))) rfl rfl) rfl ?_
              refine p_on rfl (by rw [hops96]; rfl) ?_
              refine p_run _ (x_cmp (k := .i64) (m := (reE (wS S q0 q1 xs) (s0 (nX q0 q1 % 2) (nP q0 q1 xs) q0) (s1 (nX q0 q1 % 2) (nP q0 q1 xs) q1))) (n := 0) .neq false rfl rfl rfl (by rw [hW.re]; rfl) rfl) rfl ?_
              refine p_run _ (x_pick false (.bool true) (.bool false) (.bool false) rfl rfl rfl rfl rfl) rfl ?_
              refine p_run _ (x_move (.bool false) rfl rfl) rfl ?_
              refine p_on rfl (by rw [hops96]; rfl) ?_
              refine p_run _ (x_move (.int .u64 (uv (nG S q0 q1))) rfl rfl) rfl ?_
              refine p_on rfl (by rw [hops96]; rfl) ?_
              refine p_run _ (x_move (.int .u64 (uv (wG S q0 q1 xs))) rfl rfl) rfl ?_
              refine p_on rfl (by rw [hops96]; rfl) ?_
              refine p_run (l' := (.slice (some ad) l0.length c0 :: undef :: uq38.1 :: .pointer (some ⟨D22, 0, none⟩) :: .int .u64 (uv g) :: undef :: .slice B xs.length c :: .int .u64 (uv (nG S q0 q1)) :: .int .i64 (nE S q0 q1) :: .int .u64 (uv (wG S q0 q1 xs)) :: .int .i64 (wE S q0 q1 xs) :: .slice oa89 ((rB (wS S q0 q1 xs) (s0 (nX q0 q1 % 2) (nP q0 q1 xs) q0) (s1 (nX q0 q1 % 2) (nP q0 q1 xs) q1)).length) nc90 :: .int .u64 (uv (rG (wS S q0 q1 xs) (s0 (nX q0 q1 % 2) (nP q0 q1 xs) q0) (s1 (nX q0 q1 % 2) (nP q0 q1 xs) q1))) :: .int .i64 (reE (wS S q0 q1 xs) (s0 (nX q0 q1 % 2) (nP q0 q1 xs) q0) (s1 (nX q0 q1 % 2) (nP q0 q1 xs) q1)) :: .bool true :: .bool false :: .slice (some ad) l0.length c0 :: .int .i64 (l0.length : Int) :: .bool false :: .pointer (some ⟨D22, 0, none⟩) :: .slice (some ad) l0.length c0 :: .int .i64 (l0.length : Int) :: .int .i64 (i : Int) :: .bool (decide ((i : Int) < (l0.length : Int))) :: .pointer (some ((ad).add (i * 1))) :: .slice B xs.length c :: .tuple [.int .u64 (uv (nG S q0 q1)), .int .i64 (nE S q0 q1)].toArray :: .pointer (some ⟨D22, 0, none⟩) :: .tuple [.int .u64 (uv (nG S q0 q1)), .int .i64 (nE S q0 q1)].toArray :: .int .u64 (uv (nG S q0 q1)) :: .int .i64 (nE S q0 q1) :: .tuple [.int .u64 (uv (wG S q0 q1 xs)), .int .i64 (wE S q0 q1 xs)].toArray :: .pointer (some ⟨D22, 0, none⟩) :: .slice B xs.length c :: .tuple [.int .u64 (uv (wG S q0 q1 xs)), .int .i64 (wE S q0 q1 xs)].toArray :: .int .u64 (uv (wG S q0 q1 xs)) :: .int .i64 (wE S q0 q1 xs) :: .slice B xs.length c :: .int .i64 (xs.length : Int) :: .bool false :: uq42.2.2.1 :: uq42.2.2.2.1 :: uq42.2.2.2.2.1 :: uq42.2.2.2.2.2 :: uq43.1 :: uq43.2.1 :: .tuple [.slice oa89 ((rB (wS S q0 q1 xs) (s0 (nX q0 q1 % 2) (nP q0 q1 xs) q0) (s1 (nX q0 q1 % 2) (nP q0 q1 xs) q1)).length) nc90, .int .u64 (uv (rG (wS S q0 q1 xs) (s0 (nX q0 q1 % 2) (nP q0 q1 xs) q0) (s1 (nX q0 q1 % 2) (nP q0 q1 xs) q1))), .int .i64 (reE (wS S q0 q1 xs) (s0 (nX q0 q1 % 2) (nP q0 q1 xs) q0) (s1 (nX q0 q1 % 2) (nP q0 q1 xs) q1))].toArray :: .pointer (some ⟨D22, 0, none⟩) :: .tuple [.slice oa89 ((rB (wS S q0 q1 xs) (s0 (nX q0 q1 % 2) (nP q0 q1 xs) q0) (s1 (nX q0 q1 % 2) (nP q0 q1 xs) q1)).length) nc90, .int .u64 (uv (rG (wS S q0 q1 xs) (s0 (nX q0 q1 % 2) (nP q0 q1 xs) q0) (s1 (nX q0 q1 % 2) (nP q0 q1 xs) q1))), .int .i64 (reE (wS S q0 q1 xs) (s0 (nX q0 q1 % 2) (nP q0 q1 xs) q0) (s1 (nX q0 q1 % 2) (nP q0 q1 xs) q1))].toArray :: .slice oa89 ((rB (wS S q0 q1 xs) (s0 (nX q0 q1 % 2) (nP q0 q1 xs) q0) (s1 (nX q0 q1 % 2) (nP q0 q1 xs) q1)).length) nc90 :: .int .u64 (uv (rG (wS S q0 q1 xs) (s0 (nX q0 q1 % 2) (nP q0 q1 xs) q0) (s1 (nX q0 q1 % 2) (nP q0 q1 xs) q1))) :: .int .i64 (reE (wS S q0 q1 xs) (s0 (nX q0 q1 % 2) (nP q0 q1 xs) q0) (s1 (nX q0 q1 % 2) (nP q0 q1 xs) q1)) :: .int .i64 (nE S q0 q1) :: .bool false :: .bool false :: .int .i64 (wE S q0 q1 xs) :: .bool false :: .bool false :: .bool false :: .int .i64 (reE (wS S q0 q1 xs) (s0 (nX q0 q1 % 2) (nP q0 q1 xs) q0) (s1 (nX q0 q1 % 2) (nP q0 q1 xs) q1)) :: .bool false :: .bool false :: .bool false :: .int .u64 (uv (nG S q0 q1)) :: .int .u64 (uv (wG S q0 q1 xs)) :: .bool false :: uq46.2.2.2.2.1 :: uq46.2.2.2.2.2 :: uq47.1 :: uq47.2.1 :: uq47.2.2.1 :: uq47.2.2.2.1 :: uq47.2.2.2.2.1 :: uq47.2.2.2.2.2 :: uq48.1 :: uq48.2.1 :: uq48.2.2.1 :: uq48.2.2.2.1 :: uq48.2.2.2.2.1 :: uq48.2.2.2.2.2 :: uq49.1 :: uq49.2.1 :: uq49.2.2.1 :: uq49.2.2.2.1 :: uq49.2.2.2.2.1 :: uq49.2.2.2.2.2 :: uq50 :: [])) _ (x_cmp (k := .u64) (m := (uv (nG S q0 q1))) (n := (uv (wG S q0 q1 xs))) .neq false rfl rfl rfl (by rw [n2, hW.g]; simp [cmpB]) rfl) rfl ?_
              refine p_run _ (x_pick false (.bool true) (.bool false) (.bool false) rfl rfl rfl rfl rfl) rfl ?_
              refine p_run _ (x_move (.bool false) rfl rfl) rfl ?_
              refine p_on rfl (by rw [hops96]; rfl) ?_
              refine p_run _ (x_move (.int .u64 (uv (rG (wS S q0 q1 xs) (s0 (nX q0 q1 % 2) (nP q0 q1 xs) q0) (s1 (nX q0 q1 % 2) (nP q0 q1 xs) q1)))) rfl rfl) rfl ?_
              refine p_on rfl (by rw [hops96]; rfl) ?_
              refine p_run _ (x_move (.int .u64 (uv (wG S q0 q1 xs))) rfl rfl) rfl ?_
              refine p_on rfl (by rw [hops96]; rfl) ?_
              refine p_run _ (x_cmp (k := .u64) (m := (uv (rG (wS S q0 q1 xs) (s0 (nX q0 q1 % 2) (nP q0 q1 xs) q0) (s1 (nX q0 q1 % 2) (nP q0 q1 xs) q1)))) (n := (uv (wG S q0 q1 xs))) .neq false rfl rfl rfl (by rw [hW.rg, hW.g]; simp [cmpB]) rfl) rfl ?_
              refine p_run _ (x_pick false (.bool true) (.bool false) (.bool false) rfl rfl rfl rfl rfl) rfl ?_
              refine p_run (l' := (.slice (some ad) l0.length c0 :: undef :: uq38.1 :: .pointer (some ⟨D22, 0, none⟩) :: .int .u64 (uv g) :: undef :: .slice B xs.length c :: .int .u64 (uv (nG S q0 q1)) :: .int .i64 (nE S q0 q1) :: .int .u64 (uv (wG S q0 q1 xs)) :: .int .i64 (wE S q0 q1 xs) :: .slice oa89 ((rB (wS S q0 q1 xs) (s0 (nX q0 q1 % 2) (nP q0 q1 xs) q0) (s1 (nX q0 q1 % 2) (nP q0 q1 xs) q1)).length) nc90 :: .int .u64 (uv (rG (wS S q0 q1 xs) (s0 (nX q0 q1 % 2) (nP q0 q1 xs) q0) (s1 (nX q0 q1 % 2) (nP q0 q1 xs) q1))) :: .int .i64 (reE (wS S q0 q1 xs) (s0 (nX q0 q1 % 2) (nP q0 q1 xs) q0) (s1 (nX q0 q1 % 2) (nP q0 q1 xs) q1)) :: .bool true :: .bool false :: .slice (some ad) l0.length c0 :: .int .i64 (l0.length : Int) :: .bool false :: .pointer (some ⟨D22, 0, none⟩) :: .slice (some ad) l0.length c0 :: .int .i64 (l0.length : Int) :: .int .i64 (i : Int) :: .bool (decide ((i : Int) < (l0.length : Int))) :: .pointer (some ((ad).add (i * 1))) :: .slice B xs.length c :: .tuple [.int .u64 (uv (nG S q0 q1)), .int .i64 (nE S q0 q1)].toArray :: .pointer (some ⟨D22, 0, none⟩) :: .tuple [.int .u64 (uv (nG S q0 q1)), .int .i64 (nE S q0 q1)].toArray :: .int .u64 (uv (nG S q0 q1)) :: .int .i64 (nE S q0 q1) :: .tuple [.int .u64 (uv (wG S q0 q1 xs)), .int .i64 (wE S q0 q1 xs)].toArray :: .pointer (some ⟨D22, 0, none⟩) :: .slice B xs.length c :: .tuple [.int .u64 (uv (wG S q0 q1 xs)), .int .i64 (wE S q0 q1 xs)].toArray :: .int .u64 (uv (wG S q0 q1 xs)) :: .int .i64 (wE S q0 q1 xs) :: .slice B xs.length c :: .int .i64 (xs.length : Int) :: .bool false :: uq42.2.2.1 :: uq42.2.2.2.1 :: uq42.2.2.2.2.1 :: uq42.2.2.2.2.2 :: uq43.1 :: uq43.2.1 :: .tuple [.slice oa89 ((rB (wS S q0 q1 xs) (s0 (nX q0 q1 % 2) (nP q0 q1 xs) q0) (s1 (nX q0 q1 % 2) (nP q0 q1 xs) q1)).length) nc90, .int .u64 (uv (rG (wS S q0 q1 xs) (s0 (nX q0 q1 % 2) (nP q0 q1 xs) q0) (s1 (nX q0 q1 % 2) (nP q0 q1 xs) q1))), .int .i64 (reE (wS S q0 q1 xs) (s0 (nX q0 q1 % 2) (nP q0 q1 xs) q0) (s1 (nX q0 q1 % 2) (nP q0 q1 xs) q1))].toArray :: .pointer (some ⟨D22, 0, none⟩) :: .tuple [.slice oa89 ((rB (wS S q0 q1 xs) (s0 (nX q0 q1 % 2) (nP q0 q1 xs) q0) (s1 (nX q0 q1 % 2) (nP q0 q1 xs) q1)).length) nc90, .int .u64 (uv (rG (wS S q0 q1 xs) (s0 (nX q0 q1 % 2) (nP q0 q1 xs) q0) (s1 (nX q0 q1 % 2) (nP q0 q1 xs) q1))), .int .i64 (reE (wS S q0 q1 xs) (s0 (nX q0 q1 % 2) (nP q0 q1 xs) q0) (s1 (nX q0 q1 % 2) (nP q0 q1 xs) q1))].toArray :: .slice oa89 ((rB (wS S q0 q1 xs) (s0 (nX q0 q1 % 2) (nP q0 q1 xs) q0) (s1 (nX q0 q1 % 2) (nP q0 q1 xs) q1)).length) nc90 :: .int .u64 (uv (rG (wS S q0 q1 xs) (s0 (nX q0 q1 % 2) (nP q0 q1 xs) q0) (s1 (nX q0 q1 % 2) (nP q0 q1 xs) q1))) :: .int .i64 (reE (wS S q0 q1 xs) (s0 (nX q0 q1 % 2) (nP q0 q1 xs) q0) (s1 (nX q0 q1 % 2) (nP q0 q1 xs) q1)) :: .int .i64 (nE S q0 q1) :: .bool false :: .bool false :: .int .i64 (wE S q0 q1 xs) :: .bool false :: .bool false :: .bool false :: .int .i64 (reE (wS S q0 q1 xs) (s0 (nX q0 q1 % 2) (nP q0 q1 xs) q0) (s1 (nX q0 q1 % 2) (nP q0 q1 xs) q1)) :: .bool false :: .bool false :: .bool false :: .int .u64 (uv (nG S q0 q1)) :: .int .u64 (uv (wG S q0 q1 xs)) :: .bool false :: .bool false :: .bool false :: .int .u64 (uv (rG (wS S q0 q1 xs) (s0 (nX q0 q1 % 2) (nP q0 q1 xs) q0) (s1 (nX q0 q1 % 2) (nP q0 q1 xs) q1))) :: .int .u64 (uv (wG S q0 q1 xs)) :: .bool false :: .bool false :: .bool false :: uq47.2.2.2.2.2 :: uq48.1 :: uq48.2.1 :: uq48.2.2.1 :: uq48.2.2.2.1 :: uq48.2.2.2.2.1 :: uq48.2.2.2.2.2 :: uq49.1 :: uq49.2.1 :: uq49.2.2.1 :: uq49.2.2.2.1 :: uq49.2.2.2.2.1 :: uq49.2.2.2.2.2 :: uq50 :: [])) _ (x_move (.bool false) rfl rfl) rfl ?_
              refine p_on rfl (by rw [hops96]; rfl) ?_
              refine p_run _ (x_move (.int .u64 (uv (wG S q0 q1 xs))) rfl rfl) rfl ?_
              refine p_on rfl (by rw [hops96]; rfl) ?_
              refine p_run _ (x_move (.int .u64 (uv g)) rfl rfl) rfl ?_
              refine p_on rfl (by rw [hops96]; rfl) ?_
              refine p_run _ (x_arith (k := .u64) (m := (uv g)) (n := 1) .add ((uv (UInt64.ofNat (g.toNat + 1)))) rfl rfl rfl (show IntKind.u64.wrap ((uv g) + 1) = (uv (UInt64.ofNat (g.toNat + 1))) from (add_one (by omega))) rfl) rfl ?_
              refine p_on rfl (by rw [hops96]; rfl) ?_
              refine p_run _ (x_cmp (k := .u64) (m := (uv (wG S q0 q1 xs))) (n := (uv (UInt64.ofNat (g.toNat + 1)))) .neq false rfl rfl rfl (by rw [hW.g, hnx]; simp [cmpB]) rfl) rfl ?_
              refine p_run _ (x_pick false (.bool true) (.bool false) (.bool false) rfl rfl rfl rfl rfl) rfl ?_
              refine p_run _ (x_move (.bool false) rfl rfl) rfl ?_
              refine p_on rfl (by rw [hops96]; rfl) ?_
              refine p_run (l' := (.slice (some ad) l0.length c0 :: undef :: uq38.1 :: .pointer (some ⟨D22, 0, none⟩) :: .int .u64 (uv g) :: undef :: .slice B xs.length c :: .int .u64 (uv (nG S q0 q1)) :: .int .i64 (nE S q0 q1) :: .int .u64 (uv (wG S q0 q1 xs)) :: .int .i64 (wE S q0 q1 xs) :: .slice oa89 ((rB (wS S q0 q1 xs) (s0 (nX q0 q1 % 2) (nP q0 q1 xs) q0) (s1 (nX q0 q1 % 2) (nP q0 q1 xs) q1)).length) nc90 :: .int .u64 (uv (rG (wS S q0 q1 xs) (s0 (nX q0 q1 % 2) (nP q0 q1 xs) q0) (s1 (nX q0 q1 % 2) (nP q0 q1 xs) q1))) :: .int .i64 (reE (wS S q0 q1 xs) (s0 (nX q0 q1 % 2) (nP q0 q1 xs) q0) (s1 (nX q0 q1 % 2) (nP q0 q1 xs) q1)) :: .bool true :: .bool false :: .slice (some ad) l0.length c0 :: .int .i64 (l0.length : Int) :: .bool false :: .pointer (some ⟨D22, 0, none⟩) :: .slice (some ad) l0.length c0 :: .int .i64 (l0.length : Int) :: .int .i64 (i : Int) :: .bool (decide ((i : Int) < (l0.length : Int))) :: .pointer (some ((ad).add (i * 1))) :: .slice B xs.length c :: .tuple [.int .u64 (uv (nG S q0 q1)), .int .i64 (nE S q0 q1)].toArray :: .pointer (some ⟨D22, 0, none⟩) :: .tuple [.int .u64 (uv (nG S q0 q1)), .int .i64 (nE S q0 q1)].toArray :: .int .u64 (uv (nG S q0 q1)) :: .int .i64 (nE S q0 q1) :: .tuple [.int .u64 (uv (wG S q0 q1 xs)), .int .i64 (wE S q0 q1 xs)].toArray :: .pointer (some ⟨D22, 0, none⟩) :: .slice B xs.length c :: .tuple [.int .u64 (uv (wG S q0 q1 xs)), .int .i64 (wE S q0 q1 xs)].toArray :: .int .u64 (uv (wG S q0 q1 xs)) :: .int .i64 (wE S q0 q1 xs) :: .slice B xs.length c :: .int .i64 (xs.length : Int) :: .bool false :: uq42.2.2.1 :: uq42.2.2.2.1 :: uq42.2.2.2.2.1 :: uq42.2.2.2.2.2 :: uq43.1 :: uq43.2.1 :: .tuple [.slice oa89 ((rB (wS S q0 q1 xs) (s0 (nX q0 q1 % 2) (nP q0 q1 xs) q0) (s1 (nX q0 q1 % 2) (nP q0 q1 xs) q1)).length) nc90, .int .u64 (uv (rG (wS S q0 q1 xs) (s0 (nX q0 q1 % 2) (nP q0 q1 xs) q0) (s1 (nX q0 q1 % 2) (nP q0 q1 xs) q1))), .int .i64 (reE (wS S q0 q1 xs) (s0 (nX q0 q1 % 2) (nP q0 q1 xs) q0) (s1 (nX q0 q1 % 2) (nP q0 q1 xs) q1))].toArray :: .pointer (some ⟨D22, 0, none⟩) :: .tuple [.slice oa89 ((rB (wS S q0 q1 xs) (s0 (nX q0 q1 % 2) (nP q0 q1 xs) q0) (s1 (nX q0 q1 % 2) (nP q0 q1 xs) q1)).length) nc90, .int .u64 (uv (rG (wS S q0 q1 xs) (s0 (nX q0 q1 % 2) (nP q0 q1 xs) q0) (s1 (nX q0 q1 % 2) (nP q0 q1 xs) q1))), .int .i64 (reE (wS S q0 q1 xs) (s0 (nX q0 q1 % 2) (nP q0 q1 xs) q0) (s1 (nX q0 q1 % 2) (nP q0 q1 xs) q1))].toArray :: .slice oa89 ((rB (wS S q0 q1 xs) (s0 (nX q0 q1 % 2) (nP q0 q1 xs) q0) (s1 (nX q0 q1 % 2) (nP q0 q1 xs) q1)).length) nc90 :: .int .u64 (uv (rG (wS S q0 q1 xs) (s0 (nX q0 q1 % 2) (nP q0 q1 xs) q0) (s1 (nX q0 q1 % 2) (nP q0 q1 xs) q1))) :: .int .i64 (reE (wS S q0 q1 xs) (s0 (nX q0 q1 % 2) (nP q0 q1 xs) q0) (s1 (nX q0 q1 % 2) (nP q0 q1 xs) q1)) :: .int .i64 (nE S q0 q1) :: .bool false :: .bool false :: .int .i64 (wE S q0 q1 xs) :: .bool false :: .bool false :: .bool false :: .int .i64 (reE (wS S q0 q1 xs) (s0 (nX q0 q1 % 2) (nP q0 q1 xs) q0) (s1 (nX q0 q1 % 2) (nP q0 q1 xs) q1)) :: .bool false :: .bool false :: .bool false :: .int .u64 (uv (nG S q0 q1)) :: .int .u64 (uv (wG S q0 q1 xs)) :: .bool false :: .bool false :: .bool false :: .int .u64 (uv (rG (wS S q0 q1 xs) (s0 (nX q0 q1 % 2) (nP q0 q1 xs) q0) (s1 (nX q0 q1 % 2) (nP q0 q1 xs) q1))) :: .int .u64 (uv (wG S q0 q1 xs)) :: .bool false :: .bool false :: .bool false :: .int .u64 (uv (wG S q0 q1 xs)) :: .int .u64 (uv g) :: .int .u64 (uv (UInt64.ofNat (g.toNat + 1))) :: .bool false :: .bool false :: .bool false :: .slice oa89 ((rB (wS S q0 q1 xs) (s0 (nX q0 q1 % 2) (nP q0 q1 xs) q0) (s1 (nX q0 q1 % 2) (nP q0 q1 xs) q1)).length) nc90 :: uq49.1 :: uq49.2.1 :: uq49.2.2.1 :: uq49.2.2.2.1 :: uq49.2.2.2.2.1 :: uq49.2.2.2.2.2 :: uq50 :: [])) _ (x_move (.slice oa89 ((rB (wS S q0 q1 xs) (s0 (nX q0 q1 % 2) (nP q0 q1 xs) q0) (s1 (nX q0 q1 % 2) (nP q0 q1 xs) q1)).length) nc90) rfl rfl) rfl ?_
              refine p_on rfl (by rw [hops96]; rfl) ?_
              refine p_run _ (x_str (xs := (rB (wS S q0 q1 xs) (s0 (nX q0 q1 % 2) (nP q0 q1 xs) q0) (s1 (nX q0 q1 % 2) (nP q0 q1 xs) q1))) (Sl.rd (HS.get (.head _))) (by first | rfl | simp) rfl rfl) rfl ?_
              refine p_on rfl (by rw [hops96]; rfl) ?_
              refine p_run _ (x_move (.slice B xs.length c) rfl rfl) rfl ?_
              refine p_on rfl (by rw [hops96]; rfl) ?_
              refine p_run _ (x_str (xs := xs) (Rd.below hrx HS.belowOf) (by first | rfl | simp) rfl rfl) rfl ?_
              refine p_on rfl (by rw [hops96]; rfl) ?_
              refine p_run _ (x_streq .neq (strB (rB (wS S q0 q1 xs) (s0 (nX q0 q1 % 2) (nP q0 q1 xs) q0) (s1 (nX q0 q1 % 2) (nP q0 q1 xs) q1))) (strB xs) false rfl rfl rfl (str_no hW.rb) rfl) rfl ?_
              refine p_run _ (x_pick false (.bool true) (.bool false) (.bool false) rfl rfl rfl rfl rfl) rfl ?_
              clear hops96
              refine wpList_nil ?_
              refine fr_at (l' := (.slice (some ad) l0.length c0 :: undef :: uq38.1 :: .pointer (some ⟨D22, 0, none⟩) :: .int .u64 (uv g) :: undef :: .slice B xs.length c :: .int .u64 (uv (nG S q0 q1)) :: .int .i64 (nE S q0 q1) :: .int .u64 (uv (wG S q0 q1 xs)) :: .int .i64 (wE S q0 q1 xs) :: .slice oa89 ((rB (wS S q0 q1 xs) (s0 (nX q0 q1 % 2) (nP q0 q1 xs) q0) (s1 (nX q0 q1 % 2) (nP q0 q1 xs) q1)).length) nc90 :: .int .u64 (uv (rG (wS S q0 q1 xs) (s0 (nX q0 q1 % 2) (nP q0 q1 xs) q0) (s1 (nX q0 q1 % 2) (nP q0 q1 xs) q1))) :: .int .i64 (reE (wS S q0 q1 xs) (s0 (nX q0 q1 % 2) (nP q0 q1 xs) q0) (s1 (nX q0 q1 % 2) (nP q0 q1 xs) q1)) :: .bool true :: .bool false :: .slice (some ad) l0.length c0 :: .int .i64 (l0.length : Int) :: .bool false :: .pointer (some ⟨D22, 0, none⟩) :: .slice (some ad) l0.length c0 :: .int .i64 (l0.length : Int) :: .int .i64 (i : Int) :: .bool (decide ((i : Int) < (l0.length : Int))) :: .pointer (some ((ad).add (i * 1))) :: .slice B xs.length c :: .tuple [.int .u64 (uv (nG S q0 q1)), .int .i64 (nE S q0 q1)].toArray :: .pointer (some ⟨D22, 0, none⟩) :: .tuple [.int .u64 (uv (nG S q0 q1)), .int .i64 (nE S q0 q1)].toArray :: .int .u64 (uv (nG S q0 q1)) :: .int .i64 (nE S q0 q1) :: .tuple [.int .u64 (uv (wG S q0 q1 xs)), .int .i64 (wE S q0 q1 xs)].toArray :: .pointer (some ⟨D22, 0, none⟩) :: .slice B xs.length c :: .tuple [.int .u64 (uv (wG S q0 q1 xs)), .int .i64 (wE S q0 q1 xs)].toArray :: .int .u64 (uv (wG S q0 q1 xs)) :: .int .i64 (wE S q0 q1 xs) :: .slice B xs.length c :: .int .i64 (xs.length : Int) :: .bool false :: uq42.2.2.1 :: uq42.2.2.2.1 :: uq42.2.2.2.2.1 :: uq42.2.2.2.2.2 :: uq43.1 :: uq43.2.1 :: .tuple [.slice oa89 ((rB (wS S q0 q1 xs) (s0 (nX q0 q1 % 2) (nP q0 q1 xs) q0) (s1 (nX q0 q1 % 2) (nP q0 q1 xs) q1)).length) nc90, .int .u64 (uv (rG (wS S q0 q1 xs) (s0 (nX q0 q1 % 2) (nP q0 q1 xs) q0) (s1 (nX q0 q1 % 2) (nP q0 q1 xs) q1))), .int .i64 (reE (wS S q0 q1 xs) (s0 (nX q0 q1 % 2) (nP q0 q1 xs) q0) (s1 (nX q0 q1 % 2) (nP q0 q1 xs) q1))].toArray :: .pointer (some ⟨D22, 0, none⟩) :: .tuple [.slice oa89 ((rB (wS S q0 q1 xs) (s0 (nX q0 q1 % 2) (nP q0 q1 xs) q0) (s1 (nX q0 q1 % 2) (nP q0 q1 xs) q1)).length) nc90, .int .u64 (uv (rG (wS S q0 q1 xs) (s0 (nX q0 q1 % 2) (nP q0 q1 xs) q0) (s1 (nX q0 q1 % 2) (nP q0 q1 xs) q1))), .int .i64 (reE (wS S q0 q1 xs) (s0 (nX q0 q1 % 2) (nP q0 q1 xs) q0) (s1 (nX q0 q1 % 2) (nP q0 q1 xs) q1))].toArray :: .slice oa89 ((rB (wS S q0 q1 xs) (s0 (nX q0 q1 % 2) (nP q0 q1 xs) q0) (s1 (nX q0 q1 % 2) (nP q0 q1 xs) q1)).length) nc90 :: .int .u64 (uv (rG (wS S q0 q1 xs) (s0 (nX q0 q1 % 2) (nP q0 q1 xs) q0) (s1 (nX q0 q1 % 2) (nP q0 q1 xs) q1))) :: .int .i64 (reE (wS S q0 q1 xs) (s0 (nX q0 q1 % 2) (nP q0 q1 xs) q0) (s1 (nX q0 q1 % 2) (nP q0 q1 xs) q1)) :: .int .i64 (nE S q0 q1) :: .bool false :: .bool false :: .int .i64 (wE S q0 q1 xs) :: .bool false :: .bool false :: .bool false :: .int .i64 (reE (wS S q0 q1 xs) (s0 (nX q0 q1 % 2) (nP q0 q1 xs) q0) (s1 (nX q0 q1 % 2) (nP q0 q1 xs) q1)) :: .bool false :: .bool false :: .bool false :: .int .u64 (uv (nG S q0 q1)) :: .int .u64 (uv (wG S q0 q1 xs)) :: .bool false :: .bool false :: .bool false :: .int .u64 (uv (rG (wS S q0 q1 xs) (s0 (nX q0 q1 % 2) (nP q0 q1 xs) q0) (s1 (nX q0 q1 % 2) (nP q0 q1 xs) q1))) :: .int .u64 (uv (wG S q0 q1 xs)) :: .bool false :: .bool false :: .bool false :: .int .u64 (uv (wG S q0 q1 xs)) :: .int .u64 (uv g) :: .int .u64 (uv (UInt64.ofNat (g.toNat + 1))) :: .bool false :: .bool false :: .bool false :: .slice oa89 ((rB (wS S q0 q1 xs) (s0 (nX q0 q1 % 2) (nP q0 q1 xs) q0) (s1 (nX q0 q1 % 2) (nP q0 q1 xs) q1)).length) nc90 :: .string (strB (rB (wS S q0 q1 xs) (s0 (nX q0 q1 % 2) (nP q0 q1 xs) q0) (s1 (nX q0 q1 % 2) (nP q0 q1 xs) q1))) :: .slice B xs.length c :: .string (strB xs) :: .bool false :: .bool false :: uq49.2.2.2.2.2 :: uq50 :: [])) rfl ?_
              refine hK95 _ _ ?_
              refine c_false rfl ?_
              refine wp_skip ?_
              refine hK93 _ _ ?_
              refine c_region (fun ops99 hops98 => ?_)
              clear hops98
              refine p_run _ (x_move (.int .u64 (uv (wG S q0 q1 xs))) rfl rfl) rfl ?_
              refine p_run _ (x_assign (.int .u64 (uv (wG S q0 q1 xs))) rfl rfl) rfl ?_
              refine wpList_nil ?_
              refine hK62 _ _ ?_
              refine c_region (fun ops101 hops100 => ?_)
              clear hops100
              refine p_run _ (x_arith (k := .i64) (m := (i : Int)) (n := 1) .add (((i + 1 : Nat) : Int)) rfl rfl rfl (show IntKind.i64.wrap ((i : Int) + 1) = ((i + 1 : Nat) : Int) from ((wr64' (by omega)).trans (by omega))) rfl) rfl ?_
              refine p_run _ (x_move (.int .i64 ((i + 1 : Nat) : Int)) rfl rfl) rfl ?_
              refine wpList_nil ?_
              refine fr_at (l' := (.slice (some ad) l0.length c0 :: undef :: uq38.1 :: .pointer (some ⟨D22, 0, none⟩) :: .int .u64 (uv (wG S q0 q1 xs)) :: undef :: .slice B xs.length c :: .int .u64 (uv (nG S q0 q1)) :: .int .i64 (nE S q0 q1) :: .int .u64 (uv (wG S q0 q1 xs)) :: .int .i64 (wE S q0 q1 xs) :: .slice oa89 ((rB (wS S q0 q1 xs) (s0 (nX q0 q1 % 2) (nP q0 q1 xs) q0) (s1 (nX q0 q1 % 2) (nP q0 q1 xs) q1)).length) nc90 :: .int .u64 (uv (rG (wS S q0 q1 xs) (s0 (nX q0 q1 % 2) (nP q0 q1 xs) q0) (s1 (nX q0 q1 % 2) (nP q0 q1 xs) q1))) :: .int .i64 (reE (wS S q0 q1 xs) (s0 (nX q0 q1 % 2) (nP q0 q1 xs) q0) (s1 (nX q0 q1 % 2) (nP q0 q1 xs) q1)) :: .bool true :: .bool false :: .slice (some ad) l0.length c0 :: .int .i64 (l0.length : Int) :: .bool false :: .pointer (some ⟨D22, 0, none⟩) :: .slice (some ad) l0.length c0 :: .int .i64 (l0.length : Int) :: .int .i64 ((i + 1 : Nat) : Int) :: .bool (decide ((i : Int) < (l0.length : Int))) :: .pointer (some ((ad).add (i * 1))) :: .slice B xs.length c :: .tuple [.int .u64 (uv (nG S q0 q1)), .int .i64 (nE S q0 q1)].toArray :: .pointer (some ⟨D22, 0, none⟩) :: .tuple [.int .u64 (uv (nG S q0 q1)), .int .i64 (nE S q0 q1)].toArray :: .int .u64 (uv (nG S q0 q1)) :: .int .i64 (nE S q0 q1) :: .tuple [.int .u64 (uv (wG S q0 q1 xs)), .int .i64 (wE S q0 q1 xs)].toArray :: .pointer (some ⟨D22, 0, none⟩) :: .slice B xs.length c :: .tuple [.int .u64 (uv (wG S q0 q1 xs)), .int .i64 (wE S q0 q1 xs)].toArray :: .int .u64 (uv (wG S q0 q1 xs)) :: .int .i64 (wE S q0 q1 xs) :: .slice B xs.length c :: .int .i64 (xs.length : Int) :: .bool false :: uq42.2.2.1 :: uq42.2.2.2.1 :: uq42.2.2.2.2.1 :: uq42.2.2.2.2.2 :: uq43.1 :: uq43.2.1 :: .tuple [.slice oa89 ((rB (wS S q0 q1 xs) (s0 (nX q0 q1 % 2) (nP q0 q1 xs) q0) (s1 (nX q0 q1 % 2) (nP q0 q1 xs) q1)).length) nc90, .int .u64 (uv (rG (wS S q0 q1 xs) (s0 (nX q0 q1 % 2) (nP q0 q1 xs) q0) (s1 (nX q0 q1 % 2) (nP q0 q1 xs) q1))), .int .i64 (reE (wS S q0 q1 xs) (s0 (nX q0 q1 % 2) (nP q0 q1 xs) q0) (s1 (nX q0 q1 % 2) (nP q0 q1 xs) q1))].toArray :: .pointer (some ⟨D22, 0, none⟩) :: .tuple [.slice oa89 ((rB (wS S q0 q1 xs) (s0 (nX q0 q1 % 2) (nP q0 q1 xs) q0) (s1 (nX q0 q1 % 2) (nP q0 q1 xs) q1)).length) nc90, .int .u64 (uv (rG (wS S q0 q1 xs) (s0 (nX q0 q1 % 2) (nP q0 q1 xs) q0) (s1 (nX q0 q1 % 2) (nP q0 q1 xs) q1))), .int .i64 (reE (wS S q0 q1 xs) (s0 (nX q0 q1 % 2) (nP q0 q1 xs) q0) (s1 (nX q0 q1 % 2) (nP q0 q1 xs) q1))].toArray :: .slice oa89 ((rB (wS S q0 q1 xs) (s0 (nX q0 q1 % 2) (nP q0 q1 xs) q0) (s1 (nX q0 q1 % 2) (nP q0 q1 xs) q1)).length) nc90 :: .int .u64 (uv (rG (wS S q0 q1 xs) (s0 (nX q0 q1 % 2) (nP q0 q1 xs) q0) (s1 (nX q0 q1 % 2) (nP q0 q1 xs) q1))) :: .int .i64 (reE (wS S q0 q1 xs) (s0 (nX q0 q1 % 2) (nP q0 q1 xs) q0) (s1 (nX q0 q1 % 2) (nP q0 q1 xs) q1)) :: .int .i64 (nE S q0 q1) :: .bool false :: .bool false :: .int .i64 (wE S q0 q1 xs) :: .bool false :: .bool false :: .bool false :: .int .i64 (reE (wS S q0 q1 xs) (s0 (nX q0 q1 % 2) (nP q0 q1 xs) q0) (s1 (nX q0 q1 % 2) (nP q0 q1 xs) q1)) :: .bool false :: .bool false :: .bool false :: .int .u64 (uv (nG S q0 q1)) :: .int .u64 (uv (wG S q0 q1 xs)) :: .bool false :: .bool false :: .bool false :: .int .u64 (uv (rG (wS S q0 q1 xs) (s0 (nX q0 q1 % 2) (nP q0 q1 xs) q0) (s1 (nX q0 q1 % 2) (nP q0 q1 xs) q1))) :: .int .u64 (uv (wG S q0 q1 xs)) :: .bool false :: .bool false :: .bool false :: .int .u64 (uv (wG S q0 q1 xs)) :: .int .u64 (uv g) :: .int .u64 (uv (UInt64.ofNat (g.toNat + 1))) :: .bool false :: .bool false :: .bool false :: .slice oa89 ((rB (wS S q0 q1 xs) (s0 (nX q0 q1 % 2) (nP q0 q1 xs) q0) (s1 (nX q0 q1 % 2) (nP q0 q1 xs) q1)).length) nc90 :: .string (strB (rB (wS S q0 q1 xs) (s0 (nX q0 q1 % 2) (nP q0 q1 xs) q0) (s1 (nX q0 q1 % 2) (nP q0 q1 xs) q1))) :: .slice B xs.length c :: .string (strB xs) :: .bool false :: .bool false :: .int .u64 (uv (wG S q0 q1 xs)) :: .int .i64 ((i + 1 : Nat) : Int) :: [])) rfl ?_
              refine hJ52 (i + 1, (wS S q0 q1 xs), v76, (s0 (nX q0 q1 % 2) (nP q0 q1 xs) q0), (s1 (nX q0 q1 % 2) (nP q0 q1 xs) q1), wG S q0 q1 xs) _ _ ?_ ?_
              · show l0.length - (i + 1) < l0.length - i; omega
              · exact ⟨(uq38.1, .slice B xs.length c, .int .u64 (uv (nG S q0 q1)), .int .i64 (nE S q0 q1), .int .u64 (uv (wG S q0 q1 xs)), .int .i64 (wE S q0 q1 xs)), (.slice oa89 ((rB (wS S q0 q1 xs) (s0 (nX q0 q1 % 2) (nP q0 q1 xs) q0) (s1 (nX q0 q1 % 2) (nP q0 q1 xs) q1)).length) nc90, .int .u64 (uv (rG (wS S q0 q1 xs) (s0 (nX q0 q1 % 2) (nP q0 q1 xs) q0) (s1 (nX q0 q1 % 2) (nP q0 q1 xs) q1))), .int .i64 (reE (wS S q0 q1 xs) (s0 (nX q0 q1 % 2) (nP q0 q1 xs) q0) (s1 (nX q0 q1 % 2) (nP q0 q1 xs) q1)), .bool (decide ((i : Int) < (l0.length : Int))), .pointer (some ((ad).add (i * 1))), .slice B xs.length c), (.tuple [.int .u64 (uv (nG S q0 q1)), .int .i64 (nE S q0 q1)].toArray, .pointer (some ⟨D22, 0, none⟩), .tuple [.int .u64 (uv (nG S q0 q1)), .int .i64 (nE S q0 q1)].toArray, .int .u64 (uv (nG S q0 q1)), .int .i64 (nE S q0 q1), .tuple [.int .u64 (uv (wG S q0 q1 xs)), .int .i64 (wE S q0 q1 xs)].toArray), (.pointer (some ⟨D22, 0, none⟩), .slice B xs.length c, .tuple [.int .u64 (uv (wG S q0 q1 xs)), .int .i64 (wE S q0 q1 xs)].toArray, .int .u64 (uv (wG S q0 q1 xs)), .int .i64 (wE S q0 q1 xs), .slice B xs.length c), (.int .i64 (xs.length : Int), .bool false, uq42.2.2.1, uq42.2.2.2.1, uq42.2.2.2.2.1, uq42.2.2.2.2.2), (uq43.1, uq43.2.1, .tuple [.slice oa89 ((rB (wS S q0 q1 xs) (s0 (nX q0 q1 % 2) (nP q0 q1 xs) q0) (s1 (nX q0 q1 % 2) (nP q0 q1 xs) q1)).length) nc90, .int .u64 (uv (rG (wS S q0 q1 xs) (s0 (nX q0 q1 % 2) (nP q0 q1 xs) q0) (s1 (nX q0 q1 % 2) (nP q0 q1 xs) q1))), .int .i64 (reE (wS S q0 q1 xs) (s0 (nX q0 q1 % 2) (nP q0 q1 xs) q0) (s1 (nX q0 q1 % 2) (nP q0 q1 xs) q1))].toArray, .pointer (some ⟨D22, 0, none⟩), .tuple [.slice oa89 ((rB (wS S q0 q1 xs) (s0 (nX q0 q1 % 2) (nP q0 q1 xs) q0) (s1 (nX q0 q1 % 2) (nP q0 q1 xs) q1)).length) nc90, .int .u64 (uv (rG (wS S q0 q1 xs) (s0 (nX q0 q1 % 2) (nP q0 q1 xs) q0) (s1 (nX q0 q1 % 2) (nP q0 q1 xs) q1))), .int .i64 (reE (wS S q0 q1 xs) (s0 (nX q0 q1 % 2) (nP q0 q1 xs) q0) (s1 (nX q0 q1 % 2) (nP q0 q1 xs) q1))].toArray, .slice oa89 ((rB (wS S q0 q1 xs) (s0 (nX q0 q1 % 2) (nP q0 q1 xs) q0) (s1 (nX q0 q1 % 2) (nP q0 q1 xs) q1)).length) nc90), (.int .u64 (uv (rG (wS S q0 q1 xs) (s0 (nX q0 q1 % 2) (nP q0 q1 xs) q0) (s1 (nX q0 q1 % 2) (nP q0 q1 xs) q1))), .int .i64 (reE (wS S q0 q1 xs) (s0 (nX q0 q1 % 2) (nP q0 q1 xs) q0) (s1 (nX q0 q1 % 2) (nP q0 q1 xs) q1)), .int .i64 (nE S q0 q1), .bool false, .bool false, .int .i64 (wE S q0 q1 xs)), (.bool false, .bool false, .bool false, .int .i64 (reE (wS S q0 q1 xs) (s0 (nX q0 q1 % 2) (nP q0 q1 xs) q0) (s1 (nX q0 q1 % 2) (nP q0 q1 xs) q1)), .bool false, .bool false), (.bool false, .int .u64 (uv (nG S q0 q1)), .int .u64 (uv (wG S q0 q1 xs)), .bool false, .bool false, .bool false), (.int .u64 (uv (rG (wS S q0 q1 xs) (s0 (nX q0 q1 % 2) (nP q0 q1 xs) q0) (s1 (nX q0 q1 % 2) (nP q0 q1 xs) q1))), .int .u64 (uv (wG S q0 q1 xs)), .bool false, .bool false, .bool false, .int .u64 (uv (wG S q0 q1 xs))), (.int .u64 (uv g), .int .u64 (uv (UInt64.ofNat (g.toNat + 1))), .bool false, .bool false, .bool false, .slice oa89 ((rB (wS S q0 q1 xs) (s0 (nX q0 q1 % 2) (nP q0 q1 xs) q0) (s1 (nX q0 q1 % 2) (nP q0 q1 xs) q1)).length) nc90), (.string (strB (rB (wS S q0 q1 xs) (s0 (nX q0 q1 % 2) (nP q0 q1 xs) q0) (s1 (nX q0 q1 % 2) (nP q0 q1 xs) q1))), .slice B xs.length c, .string (strB xs), .bool false, .bool false, .int .u64 (uv (wG S q0 q1 xs))), .int .i64 ((i + 1 : Nat) : Int), rfl, ((((HS.drop.front 3 rfl).front 3 rfl).front 3 rfl).front 3 rfl), ⟨hW.r, hgd78, hW.lt.trans hW.g.symm, hW.lg.trans hW.g.symm, (by rw [hW.g, n3, hnx]; omega), by omega⟩⟩
            · skip
              refine c_region (fun ops103 hops102 => ?_)
              clear hops102
              refine p_run _ (x_move (.pointer (some ⟨D22, 0, none⟩)) rfl rfl) rfl ?_
              refine w_call [.pointer (some ⟨D22, 0, none⟩)] Try.func11 (by kernel_rfl) (by rfl) rfl ?_
              replace HS := ((((HS.front 3 rfl).front 3 rfl).front 3 rfl).front 3 rfl)
              refine (next_root HS hg (by omega) (rt_p0 hR) (rt_p1 hR) hR.l0 hR.l1).mono ?_
              clear HS
              rintro e w104 ⟨rfl, HS⟩
              refine ⟨_, rfl, ?_⟩
              refine p_run _ (x_move (.tuple [.int .u64 (uv (nG S q0 q1)), .int .i64 (nE S q0 q1)].toArray) rfl rfl) rfl ?_
              refine p_run _ (x_extract (vs := [.int .u64 (uv (nG S q0 q1)), .int .i64 (nE S q0 q1)]) 0 (.int .u64 (uv (nG S q0 q1))) rfl rfl rfl) rfl ?_
              refine p_run _ (x_extract (vs := [.int .u64 (uv (nG S q0 q1)), .int .i64 (nE S q0 q1)]) 1 (.int .i64 (nE S q0 q1)) rfl rfl rfl) rfl ?_
              refine p_run _ (x_assign (.int .u64 (uv (nG S q0 q1))) rfl rfl) rfl ?_
              refine p_run (l' := (.slice (some ad) l0.length c0 :: undef :: uq38.1 :: .pointer (some ⟨D22, 0, none⟩) :: .int .u64 (uv g) :: undef :: .slice B xs.length c :: .int .u64 (uv (nG S q0 q1)) :: .int .i64 (nE S q0 q1) :: uq38.2.2.2.2.1 :: uq38.2.2.2.2.2 :: uq39.1 :: uq39.2.1 :: uq39.2.2.1 :: .bool true :: .bool false :: .slice (some ad) l0.length c0 :: .int .i64 (l0.length : Int) :: .bool false :: .pointer (some ⟨D22, 0, none⟩) :: .slice (some ad) l0.length c0 :: .int .i64 (l0.length : Int) :: .int .i64 (i : Int) :: .bool (decide ((i : Int) < (l0.length : Int))) :: .pointer (some ((ad).add (i * 1))) :: .slice B xs.length c :: .tuple [.int .u64 (uv (nG S q0 q1)), .int .i64 (nE S q0 q1)].toArray :: .pointer (some ⟨D22, 0, none⟩) :: .tuple [.int .u64 (uv (nG S q0 q1)), .int .i64 (nE S q0 q1)].toArray :: .int .u64 (uv (nG S q0 q1)) :: .int .i64 (nE S q0 q1) :: uq40.2.2.2.2.2 :: uq41.1 :: uq41.2.1 :: uq41.2.2.1 :: uq41.2.2.2.1 :: uq41.2.2.2.2.1 :: uq41.2.2.2.2.2 :: uq42.1 :: uq42.2.1 :: uq42.2.2.1 :: uq42.2.2.2.1 :: uq42.2.2.2.2.1 :: uq42.2.2.2.2.2 :: uq43.1 :: uq43.2.1 :: uq43.2.2.1 :: uq43.2.2.2.1 :: uq43.2.2.2.2.1 :: uq43.2.2.2.2.2 :: uq44.1 :: uq44.2.1 :: uq44.2.2.1 :: uq44.2.2.2.1 :: uq44.2.2.2.2.1 :: uq44.2.2.2.2.2 :: uq45.1 :: uq45.2.1 :: uq45.2.2.1 :: uq45.2.2.2.1 :: uq45.2.2.2.2.1 :: uq45.2.2.2.2.2 :: uq46.1 :: uq46.2.1 :: uq46.2.2.1 :: uq46.2.2.2.1 :: uq46.2.2.2.2.1 :: uq46.2.2.2.2.2 :: uq47.1 :: uq47.2.1 :: uq47.2.2.1 :: uq47.2.2.2.1 :: uq47.2.2.2.2.1 :: uq47.2.2.2.2.2 :: uq48.1 :: uq48.2.1 :: uq48.2.2.1 :: uq48.2.2.2.1 :: uq48.2.2.2.2.1 :: uq48.2.2.2.2.2 :: uq49.1 :: uq49.2.1 :: uq49.2.2.1 :: uq49.2.2.2.1 :: uq49.2.2.2.2.1 :: uq49.2.2.2.2.2 :: uq50 :: [])) _ (x_assign (.int .i64 (nE S q0 q1)) rfl rfl) rfl ?_
              refine wpList_nil ?_
              refine hK68 _ _ ?_
              refine wp_seq_k (fun K105 hK106 => ?_)
              refine c_region (fun ops108 hops107 => ?_)
              clear hops107
              refine p_run _ (x_move (.pointer (some ⟨D22, 0, none⟩)) rfl rfl) rfl ?_
              refine p_run _ (x_move (.slice B xs.length c) rfl rfl) rfl ?_
              refine w_call [.pointer (some ⟨D22, 0, none⟩), .slice B xs.length c] Try.func10 (by kernel_rfl) (by rfl) rfl ?_
              replace HS := ((((HS.front 3 rfl).front 3 rfl).front 3 rfl).front 3 rfl)
              refine (write_root HS hg (by omega) (rt_p0 hR) (rt_p1 hR) hR.l0 hR.l1 xs (fun w X hX => ⟨Rd.below hrx hX.belowOf, hcx⟩)).mono ?_
              clear HS
              rintro e w110 ⟨v109, rfl, HS⟩
              have hgd111 : Dk.good (wS S q0 q1 xs) (i + 1) := good_wS hg xs
              have hS : wS S q0 q1 xs = S := if_neg (fun h => hx h.1)
              have hE : wE S q0 q1 xs = 51 := if_neg hx
              have hG : wG S q0 q1 xs = 0 := if_neg (by rw [hE]; decide)
              rw [hS] at HS
              have hgd := hS ▸ hgd111
              refine ⟨_, rfl, ?_⟩
              refine p_run _ (x_move (.tuple [.int .u64 (uv (wG S q0 q1 xs)), .int .i64 (wE S q0 q1 xs)].toArray) rfl rfl) rfl ?_
              refine p_run _ (x_extract (vs := [.int .u64 (uv (wG S q0 q1 xs)), .int .i64 (wE S q0 q1 xs)]) 0 (.int .u64 (uv (wG S q0 q1 xs))) rfl rfl rfl) rfl ?_
              refine p_run _ (x_extract (vs := [.int .u64 (uv (wG S q0 q1 xs)), .int .i64 (wE S q0 q1 xs)]) 1 (.int .i64 (wE S q0 q1 xs)) rfl rfl rfl) rfl ?_
              refine p_run (l' := (.slice (some ad) l0.length c0 :: undef :: uq38.1 :: .pointer (some ⟨D22, 0, none⟩) :: .int .u64 (uv g) :: undef :: .slice B xs.length c :: .int .u64 (uv (nG S q0 q1)) :: .int .i64 (nE S q0 q1) :: .int .u64 (uv (wG S q0 q1 xs)) :: uq38.2.2.2.2.2 :: uq39.1 :: uq39.2.1 :: uq39.2.2.1 :: .bool true :: .bool false :: .slice (some ad) l0.length c0 :: .int .i64 (l0.length : Int) :: .bool false :: .pointer (some ⟨D22, 0, none⟩) :: .slice (some ad) l0.length c0 :: .int .i64 (l0.length : Int) :: .int .i64 (i : Int) :: .bool (decide ((i : Int) < (l0.length : Int))) :: .pointer (some ((ad).add (i * 1))) :: .slice B xs.length c :: .tuple [.int .u64 (uv (nG S q0 q1)), .int .i64 (nE S q0 q1)].toArray :: .pointer (some ⟨D22, 0, none⟩) :: .tuple [.int .u64 (uv (nG S q0 q1)), .int .i64 (nE S q0 q1)].toArray :: .int .u64 (uv (nG S q0 q1)) :: .int .i64 (nE S q0 q1) :: .tuple [.int .u64 (uv (wG S q0 q1 xs)), .int .i64 (wE S q0 q1 xs)].toArray :: .pointer (some ⟨D22, 0, none⟩) :: .slice B xs.length c :: .tuple [.int .u64 (uv (wG S q0 q1 xs)), .int .i64 (wE S q0 q1 xs)].toArray :: .int .u64 (uv (wG S q0 q1 xs)) :: .int .i64 (wE S q0 q1 xs) :: uq41.2.2.2.2.2 :: uq42.1 :: uq42.2.1 :: uq42.2.2.1 :: uq42.2.2.2.1 :: uq42.2.2.2.2.1 :: uq42.2.2.2.2.2 :: uq43.1 :: uq43.2.1 :: uq43.2.2.1 :: uq43.2.2.2.1 :: uq43.2.2.2.2.1 :: uq43.2.2.2.2.2 :: uq44.1 :: uq44.2.1 :: uq44.2.2.1 :: uq44.2.2.2.1 :: uq44.2.2.2.2.1 :: uq44.2.2.2.2.2 :: uq45.1 :: uq45.2.1 :: uq45.2.2.1 :: uq45.2.2.2.1 :: uq45.2.2.2.2.1 :: uq45.2.2.2.2.2 :: uq46.1 :: uq46.2.1 :: uq46.2.2.1 :: uq46.2.2.2.1 :: uq46.2.2.2.2.1 :: uq46.2.2.2.2.2 :: uq47.1 :: uq47.2.1 :: uq47.2.2.1 :: uq47.2.2.2.1 :: uq47.2.2.2.2.1 :: uq47.2.2.2.2.2 :: uq48.1 :: uq48.2.1 :: uq48.2.2.1 :: uq48.2.2.2.1 :: uq48.2.2.2.2.1 :: uq48.2.2.2.2.2 :: uq49.1 :: uq49.2.1 :: uq49.2.2.1 :: uq49.2.2.2.1 :: uq49.2.2.2.2.1 :: uq49.2.2.2.2.2 :: uq50 :: [])) _ (x_assign (.int .u64 (uv (wG S q0 q1 xs))) rfl rfl) rfl ?_
              refine p_run _ (x_assign (.int .i64 (wE S q0 q1 xs)) rfl rfl) rfl ?_
              refine wpList_nil ?_
              refine hK106 _ _ ?_
              refine wp_seq_k (fun K112 hK113 => ?_)
              refine wp_seq_k (fun K114 hK115 => ?_)
              refine c_region (fun ops117 hops116 => ?_)
              clear hops116
              refine p_run _ (x_move (.slice B xs.length c) rfl rfl) rfl ?_
              refine p_run _ (x_len rfl rfl Try.underlying24) rfl ?_
              refine p_run _ (x_cmp (k := .i64) (m := (xs.length : Int)) (n := 186) .gtr true rfl rfl rfl (show decide _ = true from decide_eq_true (by omega)) rfl) rfl ?_
              refine wpList_nil ?_
              refine hK115 _ _ ?_
              refine c_true rfl ?_
              refine wp_seq_k (fun K118 hK119 => ?_)
              refine wp_seq_k (fun K120 hK121 => ?_)
              refine c_region (fun ops123 hops122 => ?_)
              refine p_run _ (x_move (.int .i64 (wE S q0 q1 xs)) rfl rfl) rfl ?_
              refine p_run _ (x_cmp (k := .i64) (m := (wE S q0 q1 xs)) (n := 51) .neq false rfl rfl rfl (by rw [hE]; rfl) rfl) rfl ?_
              refine p_run (l' := (.slice (some ad) l0.length c0 :: undef :: uq38.1 :: .pointer (some ⟨D22, 0, none⟩) :: .int .u64 (uv g) :: undef :: .slice B xs.length c :: .int .u64 (uv (nG S q0 q1)) :: .int .i64 (nE S q0 q1) :: .int .u64 (uv (wG S q0 q1 xs)) :: .int .i64 (wE S q0 q1 xs) :: uq39.1 :: uq39.2.1 :: uq39.2.2.1 :: .bool true :: .bool false :: .slice (some ad) l0.length c0 :: .int .i64 (l0.length : Int) :: .bool false :: .pointer (some ⟨D22, 0, none⟩) :: .slice (some ad) l0.length c0 :: .int .i64 (l0.length : Int) :: .int .i64 (i : Int) :: .bool (decide ((i : Int) < (l0.length : Int))) :: .pointer (some ((ad).add (i * 1))) :: .slice B xs.length c :: .tuple [.int .u64 (uv (nG S q0 q1)), .int .i64 (nE S q0 q1)].toArray :: .pointer (some ⟨D22, 0, none⟩) :: .tuple [.int .u64 (uv (nG S q0 q1)), .int .i64 (nE S q0 q1)].toArray :: .int .u64 (uv (nG S q0 q1)) :: .int .i64 (nE S q0 q1) :: .tuple [.int .u64 (uv (wG S q0 q1 xs)), .int .i64 (wE S q0 q1 xs)].toArray :: .pointer (some ⟨D22, 0, none⟩) :: .slice B xs.length c :: .tuple [.int .u64 (uv (wG S q0 q1 xs)), .int .i64 (wE S q0 q1 xs)].toArray :: .int .u64 (uv (wG S q0 q1 xs)) :: .int .i64 (wE S q0 q1 xs) :: .slice B xs.length c :: .int .i64 (xs.length : Int) :: .bool true :: .int .i64 (wE S q0 q1 xs) :: .bool false :: .bool false :: uq42.2.2.2.2.2 :: uq43.1 :: uq43.2.1 :: uq43.2.2.1 :: uq43.2.2.2.1 :: uq43.2.2.2.2.1 :: uq43.2.2.2.2.2 :: uq44.1 :: uq44.2.1 :: uq44.2.2.1 :: uq44.2.2.2.1 :: uq44.2.2.2.2.1 :: uq44.2.2.2.2.2 :: uq45.1 :: uq45.2.1 :: uq45.2.2.1 :: uq45.2.2.2.1 :: uq45.2.2.2.2.1 :: uq45.2.2.2.2.2 :: uq46.1 :: uq46.2.1 :: uq46.2.2.1 :: uq46.2.2.2.1 :: uq46.2.2.2.2.1 :: uq46.2.2.2.2.2 :: uq47.1 :: uq47.2.1 :: uq47.2.2.1 :: uq47.2.2.2.1 :: uq47.2.2.2.2.1 :: uq47.2.2.2.2.2 :: uq48.1 :: uq48.2.1 :: uq48.2.2.1 :: uq48.2.2.2.1 :: uq48.2.2.2.2.1 :: uq48.2.2.2.2.2 :: uq49.1 :: uq49.2.1 :: uq49.2.2.1 :: uq49.2.2.2.1 :: uq49.2.2.2.2.1 :: uq49.2.2.2.2.2 :: uq50 :: [])) _ (x_move (.bool false) rfl rfl) rfl ?_
              refine p_on rfl (by rw [hops122]; rfl) ?_
              refine p_run _ (x_move (.int .u64 (uv (wG S q0 q1 xs))) rfl rfl) rfl ?_
              refine p_on rfl (by rw [hops122]; rfl) ?_
              refine p_run _ (x_cmp (k := .u64) (m := (uv (wG S q0 q1 xs))) (n := 0) .neq false rfl rfl rfl (by rw [hG]; rfl) rfl) rfl ?_
              refine p_run _ (x_pick false (.bool true) (.bool false) (.bool false) rfl rfl rfl rfl rfl) rfl ?_
              clear hops122
              refine wpList_nil ?_
              refine hK121 _ _ ?_
              refine c_false rfl ?_
              refine wp_skip ?_
              refine hK119 _ _ ?_
              refine wp_exit ?_
              refine hK62 _ _ ?_
              refine c_region (fun ops125 hops124 => ?_)
              clear hops124
              refine p_run _ (x_arith (k := .i64) (m := (i : Int)) (n := 1) .add (((i + 1 : Nat) : Int)) rfl rfl rfl (show IntKind.i64.wrap ((i : Int) + 1) = ((i + 1 : Nat) : Int) from ((wr64' (by omega)).trans (by omega))) rfl) rfl ?_
              refine p_run _ (x_move (.int .i64 ((i + 1 : Nat) : Int)) rfl rfl) rfl ?_
              refine wpList_nil ?_
              refine fr_at (l' := (.slice (some ad) l0.length c0 :: undef :: uq38.1 :: .pointer (some ⟨D22, 0, none⟩) :: .int .u64 (uv g) :: undef :: .slice B xs.length c :: .int .u64 (uv (nG S q0 q1)) :: .int .i64 (nE S q0 q1) :: .int .u64 (uv (wG S q0 q1 xs)) :: .int .i64 (wE S q0 q1 xs) :: uq39.1 :: uq39.2.1 :: uq39.2.2.1 :: .bool true :: .bool false :: .slice (some ad) l0.length c0 :: .int .i64 (l0.length : Int) :: .bool false :: .pointer (some ⟨D22, 0, none⟩) :: .slice (some ad) l0.length c0 :: .int .i64 (l0.length : Int) :: .int .i64 ((i + 1 : Nat) : Int) :: .bool (decide ((i : Int) < (l0.length : Int))) :: .pointer (some ((ad).add (i * 1))) :: .slice B xs.length c :: .tuple [.int .u64 (uv (nG S q0 q1)), .int .i64 (nE S q0 q1)].toArray :: .pointer (some ⟨D22, 0, none⟩) :: .tuple [.int .u64 (uv (nG S q0 q1)), .int .i64 (nE S q0 q1)].toArray :: .int .u64 (uv (nG S q0 q1)) :: .int .i64 (nE S q0 q1) :: .tuple [.int .u64 (uv (wG S q0 q1 xs)), .int .i64 (wE S q0 q1 xs)].toArray :: .pointer (some ⟨D22, 0, none⟩) :: .slice B xs.length c :: .tuple [.int .u64 (uv (wG S q0 q1 xs)), .int .i64 (wE S q0 q1 xs)].toArray :: .int .u64 (uv (wG S q0 q1 xs)) :: .int .i64 (wE S q0 q1 xs) :: .slice B xs.length c :: .int .i64 (xs.length : Int) :: .bool true :: .int .i64 (wE S q0 q1 xs) :: .bool false :: .bool false :: .int .u64 (uv (wG S q0 q1 xs)) :: .bool false :: .bool false :: uq43.2.2.1 :: uq43.2.2.2.1 :: uq43.2.2.2.2.1 :: uq43.2.2.2.2.2 :: uq44.1 :: uq44.2.1 :: uq44.2.2.1 :: uq44.2.2.2.1 :: uq44.2.2.2.2.1 :: uq44.2.2.2.2.2 :: uq45.1 :: uq45.2.1 :: uq45.2.2.1 :: uq45.2.2.2.1 :: uq45.2.2.2.2.1 :: uq45.2.2.2.2.2 :: uq46.1 :: uq46.2.1 :: uq46.2.2.1 :: uq46.2.2.2.1 :: uq46.2.2.2.2.1 :: uq46.2.2.2.2.2 :: uq47.1 :: uq47.2.1 :: uq47.2.2.1 :: uq47.2.2.2.1 :: uq47.2.2.2.2.1 :: uq47.2.2.2.2.2 :: uq48.1 :: uq48.2.1 :: uq48.2.2.1 :: uq48.2.2.2.1 :: uq48.2.2.2.2.1 :: uq48.2.2.2.2.2 :: uq49.1 :: uq49.2.1 :: uq49.2.2.1 :: uq49.2.2.2.1 :: uq49.2.2.2.2.1 :: uq49.2.2.2.2.2 :: .int .i64 ((i + 1 : Nat) : Int) :: [])) rfl ?_
              refine hJ52 (i + 1, S, v109, q0, q1, g) _ _ ?_ ?_
              · show l0.length - (i + 1) < l0.length - i; omega
              · exact ⟨(uq38.1, .slice B xs.length c, .int .u64 (uv (nG S q0 q1)), .int .i64 (nE S q0 q1), .int .u64 (uv (wG S q0 q1 xs)), .int .i64 (wE S q0 q1 xs)), (uq39.1, uq39.2.1, uq39.2.2.1, .bool (decide ((i : Int) < (l0.length : Int))), .pointer (some ((ad).add (i * 1))), .slice B xs.length c), (.tuple [.int .u64 (uv (nG S q0 q1)), .int .i64 (nE S q0 q1)].toArray, .pointer (some ⟨D22, 0, none⟩), .tuple [.int .u64 (uv (nG S q0 q1)), .int .i64 (nE S q0 q1)].toArray, .int .u64 (uv (nG S q0 q1)), .int .i64 (nE S q0 q1), .tuple [.int .u64 (uv (wG S q0 q1 xs)), .int .i64 (wE S q0 q1 xs)].toArray), (.pointer (some ⟨D22, 0, none⟩), .slice B xs.length c, .tuple [.int .u64 (uv (wG S q0 q1 xs)), .int .i64 (wE S q0 q1 xs)].toArray, .int .u64 (uv (wG S q0 q1 xs)), .int .i64 (wE S q0 q1 xs), .slice B xs.length c), (.int .i64 (xs.length : Int), .bool true, .int .i64 (wE S q0 q1 xs), .bool false, .bool false, .int .u64 (uv (wG S q0 q1 xs))), (.bool false, .bool false, uq43.2.2.1, uq43.2.2.2.1, uq43.2.2.2.2.1, uq43.2.2.2.2.2), uq44, uq45, uq46, uq47, uq48, uq49, .int .i64 ((i + 1 : Nat) : Int), rfl, ((((HS.front 3 rfl).front 3 rfl).front 3 rfl).front 3 rfl), ⟨hR, hgd, hT, hG0, by omega, by omega⟩⟩
          · refine wp_exit ?_
            refine hK33 _ _ ?_
            refine wp_seq_k (fun K126 hK127 => ?_)
            refine c_region (fun ops129 hops128 => ?_)
            clear hops128
            refine p_run _ (x_assign (.bool true) rfl rfl) rfl ?_
            refine wpList_nil ?_
            refine hK127 _ _ ?_
            refine wp_ret ?_
            try simp only [Exit.inBlock, Exit.then]
            refine c_ret (.bool true) (r_tmp rfl rfl) ?_
            exact ⟨rfl, HS.belowOf⟩

theorem rturns_any (A0 : Option Addr) (c0 : Nat) (l0 : List (List UInt8)) (w : World) (hr0 : Rds w A0 l0) : Calls Try.prog 4 #[.slice A0 l0.length c0] w fun e w' => e = .returned (.bool true) ∧ Below w.heap.size w w' := rturns_law w A0 c0 l0 hr0
end Go.Proofs.Ytenlkobjldhfgaa
