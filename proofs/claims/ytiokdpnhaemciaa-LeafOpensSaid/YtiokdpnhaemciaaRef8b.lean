/- The document's leaf: Page, Open. -/
import Derived.Test.YtiokdpnhaemciaaRef8a
import Derived.Test.YtiokdpnhaemciaaLeaf5
set_option linter.unusedVariables false
set_option linter.unusedSimpArgs false
namespace Go.Proofs.Ytiokdpnhaemciaa
open Go.RowKit Go.Proofs.YtiokdpnhaemciaaW.PrintWords Go.Proofs.YtiokdpnhaemciaaW.PrintLast Crc
abbrev U4b8 (l : List Value) : List Value := undef :: undef :: undef :: undef :: l
abbrev U8b8 (l : List Value) : List Value := U4b8 (U4b8 l)
abbrev U16b8 (l : List Value) : List Value := U8b8 (U8b8 l)
abbrev U32b8 (l : List Value) : List Value := U16b8 (U16b8 l)
abbrev U64b8 (l : List Value) : List Value := U32b8 (U32b8 l)
theorem pd_pad {xs : List UInt8} : padN 256 (sealB xs) (xs.length + 4) = (pdB xs).map bv := by
  have h := padN_all 256 (sealB xs)
  rw [sealB_length] at h
  rw [h]
  rfl
theorem nd_one {k : Int} {b : List UInt8} {es : List (Int × Int)} (hk : k = 1) : ndB k b es = [byt k] ++ b := if_pos hk
theorem nd_more {k : Int} {b : List UInt8} {es : List (Int × Int)} (hk : ¬ k = 1) : ndB k b es = [byt k, byt (es.length : Int)] ++ esB es := if_neg hk

set_option maxRecDepth 10000 in
set_option maxHeartbeats 2000000 in
theorem rpage8_any (w : World) (k : Int) (b : List UInt8) (hb : b.length = 16) (A : Option Addr) (c : Nat) (es : List (Int × Int)) (hr : kEn.C w A es.length es) (hl : es.length ≤ 1000) : Calls Try.prog 40 #[nv8 k (nums .u8 (b.map bv)) A es.length c] w fun e w' => e = .returned (.tuple #[.agg (nums .u8 ((lfP k b es).map bv)).toArray, .int .i64 (lfE k b es)]) ∧ Below w.heap.size w w' := by
  have HS := St.empty w
  rcases hok : ndOk k b es with _ | _
  · skip
    refine c_enter Try.func40 rfl 63 rfl (nv8 k (nums .u8 (b.map bv)) A es.length c :: U32b8 (U16b8 (U8b8 (U4b8 (undef :: undef :: []))))) rfl ?_
    refine wp_seq_k (fun K1 hK2 => ?_)
    refine c_region (fun ops4 hops3 => ?_)
    clear hops3
    refine St.wBox HS (cs := (Value.int .i64 k :: ((nums .u8 (b.map bv)) ++ ([Value.slice A es.length c])))) (nv8 k (nums .u8 (b.map bv)) A es.length c) rfl rfl ?_
    clear HS
    intro g5 w6 hg7 HS
    refine St.wAlloc HS (cs := ((nums .u8 zpg))) (.agg ((nums .u8 zpg)).toArray) (by kernel_rfl) rfl ?_
    clear HS
    intro g8 w9 hg10 HS
    refine p_run _ (x_assign (.int .i64 0) rfl rfl) rfl ?_
    refine wpList_nil ?_
    refine hK2 _ _ ?_
    refine wp_seq_k (fun K11 hK12 => ?_)
    refine wp_seq_k (fun K13 hK14 => ?_)
    refine c_region (fun ops16 hops15 => ?_)
    clear hops15
    refine p_run _ (x_loads (Value.int .i64 k :: ((nums .u8 (b.map bv)) ++ ([Value.slice A es.length c]))) 18 rfl rfl (bkCells (HS.get (.tail _ (.head _))) 0 _ (whole _)) (by rfl) (by kernel_rfl) (by simp [List.length_map, hb, nums_length])) rfl ?_
    refine w_call [nv8 k (nums .u8 (b.map bv)) A es.length c] Try.func59 (by kernel_rfl) (by rfl) rfl ?_
    refine (rright_node _ k b hb A c es (Kd.C_below hr HS.belowOf) hl).mono ?_
    rintro e w17 ⟨he_, hb_⟩
    rw [hok] at he_
    subst he_
    replace HS := HS.here hb_
    clear hb_
    refine ⟨_, rfl, ?_⟩
    refine p_run _ (x_not false rfl rfl) rfl ?_
    refine wpList_nil ?_
    refine hK14 _ _ ?_
    refine c_true rfl ?_
    refine wp_seq_k (fun K18 hK19 => ?_)
    refine c_region (fun ops21 hops20 => ?_)
    clear hops20
    refine p_run _ (x_build ((nums .u8 zpg)) rfl (by kernel_rfl)) rfl ?_
    refine St.stores (cs' := ((nums .u8 zpg))) HS ((nums .u8 zpg)) 256 rfl rfl (nums_one _ _) (by kernel_rfl) (by simp [nums_length, zlen]) (by simp [nums_length, zlen]) (lay_all _ _ (by simp [nums_length, zlen])) ?_
    clear HS
    intro w22 HS
    refine p_run _ (x_assign (.int .i64 81) rfl rfl) rfl ?_
    refine wpList_nil ?_
    refine fr_at (l' := (nv8 k (nums .u8 (b.map bv)) A es.length c :: .pointer (some ⟨g5, 0, none⟩) :: .pointer (some ⟨g8, 0, none⟩) :: .int .i64 81 :: U4b8 (undef :: undef :: nv8 k (nums .u8 (b.map bv)) A es.length c :: .bool false :: .bool true :: .agg ((nums .u8 zpg)).toArray :: U32b8 (U16b8 (undef :: []))))) rfl ?_
    refine hK19 _ _ ?_
    refine wp_ret ?_
    try simp only [Exit.inBlock, Exit.then]
    refine c_ret (.tuple [.agg ((nums .u8 zpg)).toArray, .int .i64 81].toArray) (r_ct rfl rfl (run_loadVar_aggn (by rfl) ((nums .u8 zpg)) 256 (by kernel_rfl) (by simp [nums_length, zlen]) (bkCells (HS.get (.head _)) 0 _ (whole _))) rfl) ?_
    rw [(lf_no hok).1, (lf_no hok).2, ← zpg_eq]
    exact ⟨rfl, HS.belowOf⟩
  · skip
    have hfit := nd_fit k hb (ndOk_le hok)
    by_cases hk : k = 1
    · skip
      refine c_enter Try.func40 rfl 63 rfl (nv8 k (nums .u8 (b.map bv)) A es.length c :: U32b8 (U16b8 (U8b8 (U4b8 (undef :: undef :: []))))) rfl ?_
      refine wp_seq_k (fun K1 hK2 => ?_)
      refine c_region (fun ops4 hops3 => ?_)
      clear hops3
      refine St.wBox HS (cs := (Value.int .i64 k :: ((nums .u8 (b.map bv)) ++ ([Value.slice A es.length c])))) (nv8 k (nums .u8 (b.map bv)) A es.length c) rfl rfl ?_
      clear HS
      intro g5 w6 hg7 HS
      refine St.wAlloc HS (cs := ((nums .u8 zpg))) (.agg ((nums .u8 zpg)).toArray) (by kernel_rfl) rfl ?_
      clear HS
      intro g8 w9 hg10 HS
      refine p_run _ (x_assign (.int .i64 0) rfl rfl) rfl ?_
      refine wpList_nil ?_
      refine hK2 _ _ ?_
      refine wp_seq_k (fun K11 hK12 => ?_)
      refine wp_seq_k (fun K13 hK14 => ?_)
      refine c_region (fun ops16 hops15 => ?_)
      clear hops15
      refine p_run _ (x_loads (Value.int .i64 k :: ((nums .u8 (b.map bv)) ++ ([Value.slice A es.length c]))) 18 rfl rfl (bkCells (HS.get (.tail _ (.head _))) 0 _ (whole _)) (by rfl) (by kernel_rfl) (by simp [List.length_map, hb, nums_length])) rfl ?_
      refine w_call [nv8 k (nums .u8 (b.map bv)) A es.length c] Try.func59 (by kernel_rfl) (by rfl) rfl ?_
      refine (rright_node _ k b hb A c es (Kd.C_below hr HS.belowOf) hl).mono ?_
      rintro e w17 ⟨he_, hb_⟩
      rw [hok] at he_
      subst he_
      replace HS := HS.here hb_
      clear hb_
      refine ⟨_, rfl, ?_⟩
      refine p_run _ (x_not true rfl rfl) rfl ?_
      refine wpList_nil ?_
      refine hK14 _ _ ?_
      refine c_false rfl ?_
      refine wp_skip ?_
      refine hK12 _ _ ?_
      refine wp_seq_k (fun K18 hK19 => ?_)
      refine c_region (fun ops21 hops20 => ?_)
      clear hops20
      refine p_run _ (x_field (j := 0) _ _ rfl rfl Try.underlying52 rfl (by rfl) rfl) rfl ?_
      refine p_run _ (x_load (.int .i64 k) rfl rfl (bkCell (HS.get (.tail _ (.head _))) 0 _ rfl) (by rfl)) rfl ?_
      refine p_run _ (x_conv (k := .i64) (m := k) .u8 ((bv (byt k))) rfl (by rw [Try.underlying3]; rfl) Try.underlying5 rfl (conv_byt _)) rfl ?_
      refine St.wLitB HS [(byt k)] rfl Try.underlying65 (by kernel_rfl) (by decide) (by kernel_rfl) ?_
      clear HS
      intro v22 w23 HS
      refine fr_to (l' := (nv8 k (nums .u8 (b.map bv)) A es.length c :: .pointer (some ⟨g5, 0, none⟩) :: .pointer (some ⟨g8, 0, none⟩) :: .int .i64 0 :: U4b8 (undef :: undef :: nv8 k (nums .u8 (b.map bv)) A es.length c :: .bool true :: .bool false :: undef :: .pointer (some ⟨g5, 0, none⟩) :: .int .i64 k :: .int .u8 (bv (byt k)) :: v22 :: U32b8 (U8b8 (U4b8 (undef :: [])))))) rfl ?_
      refine p_run _ (x_assign (v22) rfl rfl) rfl ?_
      refine wpList_nil ?_
      refine hK19 _ _ ?_
      refine wp_seq_k (fun K24 hK25 => ?_)
      refine wp_seq_k (fun K26 hK27 => ?_)
      refine c_region (fun ops29 hops28 => ?_)
      clear hops28
      refine p_run _ (x_field (j := 0) _ _ rfl rfl Try.underlying52 rfl (by rfl) rfl) rfl ?_
      refine p_run _ (x_load (.int .i64 k) rfl rfl (bkCell (HS.get (.tail _ (.tail _ (.head _)))) 0 _ rfl) (by rfl)) rfl ?_
      refine p_run _ (x_cmp (k := .i64) (m := k) (n := 1) .eql true rfl rfl rfl (cmp_yes hk) rfl) rfl ?_
      refine wpList_nil ?_
      refine hK27 _ _ ?_
      refine c_true rfl ?_
      skip
      · skip
        refine c_region (fun ops31 hops30 => ?_)
        clear hops30
        refine p_run _ (x_move (v22) rfl rfl) rfl ?_
        refine p_run _ (x_field (j := 1) _ _ rfl rfl Try.underlying52 rfl (by rfl) rfl) rfl ?_
        refine p_run (.slice (some ⟨g5, 1, none⟩) 16 16) ((x_sliceArr (sz := 1) (L := none) (H := none) (lo := 0) (hi := 16) ⟨g5, 1, none⟩ rfl rfl Try.underlying49 (by kernel_rfl) rfl rfl (by omega) (by omega) (by first | rfl | (rw [if_neg (by omega), add_mk]; rfl))).trans rfl) rfl ?_
        refine St.wAppend HS (.int .u8 0) 1 Try.underlying65 (by kernel_rfl) rfl (by decide) (by decide) b _ _ _ rfl rfl (hb ▸ rd_sub (HS.get (.tail _ (.tail _ (.head _)))) 1 (by simp [nums_length]) (by omega)) (fun _ _ h => h) (by simp <;> omega) ?_
        clear HS
        intro v32 w33 HS
        refine p_run _ (x_assign (v32) rfl rfl) rfl ?_
        refine wpList_nil ?_
        refine fr_at (l' := (nv8 k (nums .u8 (b.map bv)) A es.length c :: .pointer (some ⟨g5, 0, none⟩) :: .pointer (some ⟨g8, 0, none⟩) :: .int .i64 0 :: v32 :: U4b8 (undef :: nv8 k (nums .u8 (b.map bv)) A es.length c :: .bool true :: .bool false :: undef :: .pointer (some ⟨g5, 0, none⟩) :: .int .i64 k :: .int .u8 (bv (byt k)) :: v22 :: .pointer (some ⟨g5, 0, none⟩) :: .int .i64 k :: .bool true :: v22 :: .pointer (some ⟨g5, 1, none⟩) :: .slice (some ⟨g5, 1, none⟩) 16 16 :: v32 :: U32b8 (U4b8 (undef :: undef :: []))))) rfl ?_
        refine hK25 _ _ ?_
        refine wp_seq_k (fun K34 hK35 => ?_)
        refine c_region (fun ops37 hops36 => ?_)
        clear hops36
        refine p_run _ (x_build ((nums .u8 zpg)) rfl (by kernel_rfl)) rfl ?_
        refine St.wAlloc HS (cs := ((nums .u8 zpg))) (.agg ((nums .u8 zpg)).toArray) (by kernel_rfl) rfl ?_
        clear HS
        intro g38 w39 hg40 HS
        refine St.stores (cs' := ((nums .u8 zpg))) HS ((nums .u8 zpg)) 256 rfl rfl (nums_one _ _) (by kernel_rfl) (by simp [nums_length, zlen]) (by simp [nums_length, zlen]) (lay_all _ _ (by simp [nums_length, zlen])) ?_
        clear HS
        intro w41 HS
        refine wpList_nil ?_
        refine hK35 _ _ ?_
        refine wp_seq_k (fun K42 hK43 => ?_)
        refine wp_seq_k (fun K44 hK45 => ?_)
        refine c_region (fun ops47 hops46 => ?_)
        clear hops46
        refine p_run _ (x_move (v32) rfl rfl) rfl ?_
        refine w_call [v32] Try.func33 (by kernel_rfl) (by rfl) rfl ?_
        rw [← nd_one (es := es) hk] at HS
        replace HS := (HS.front 1 rfl)
        refine (rsealR_any HS ((ndB k b es).length + 4) (sealB_length _) (by omega)).mono ?_
        clear HS
        rintro e w50 ⟨oa48, nc49, rfl, HS⟩
        refine ⟨_, rfl, ?_⟩
        refine p_run _ (x_len rfl rfl Try.underlying65) rfl ?_
        refine p_run _ (x_move (.int .i64 0) rfl rfl) rfl ?_
        refine wpList_nil ?_
        refine fr_at (l' := (nv8 k (nums .u8 (b.map bv)) A es.length c :: .pointer (some ⟨g5, 0, none⟩) :: .pointer (some ⟨g8, 0, none⟩) :: .int .i64 0 :: v32 :: undef :: undef :: .pointer (some ⟨g38, 0, none⟩) :: undef :: undef :: nv8 k (nums .u8 (b.map bv)) A es.length c :: .bool true :: .bool false :: undef :: .pointer (some ⟨g5, 0, none⟩) :: .int .i64 k :: .int .u8 (bv (byt k)) :: v22 :: .pointer (some ⟨g5, 0, none⟩) :: .int .i64 k :: .bool true :: v22 :: .pointer (some ⟨g5, 1, none⟩) :: .slice (some ⟨g5, 1, none⟩) 16 16 :: v32 :: U16b8 (U8b8 (.agg ((nums .u8 zpg)).toArray :: v32 :: .slice oa48 ((ndB k b es).length + 4) nc49 :: .int .i64 (((ndB k b es).length + 4) : Int) :: .int .i64 0 :: U8b8 (undef :: []))))) rfl ?_
        refine hK45 _ _ ?_
        refine wp_block ?_
        have hsl : (sealB (ndB k b es)).length = ((ndB k b es).length + 4) := sealB_length _
        obtain ⟨ad, hA⟩ := rd_some (row_rd (HS.get (.head _))).2.2 (by omega)
        subst hA
        refine c_loop (ι := Nat) (fun i_ a_ w_ => match i_ with | j => ∃ (u8 : Value) (u9 : Value) (u54 : Value) (u55 : Value) (u56 : Value) (u57 : Value) (u58 : Value) (u59 : Value) (u60 : Value) (u61 : Value), a_ = fr (nv8 k (nums .u8 (b.map bv)) A es.length c :: .pointer (some ⟨g5, 0, none⟩) :: .pointer (some ⟨g8, 0, none⟩) :: .int .i64 0 :: v32 :: undef :: undef :: .pointer (some ⟨g38, 0, none⟩) :: u8 :: u9 :: nv8 k (nums .u8 (b.map bv)) A es.length c :: .bool true :: .bool false :: undef :: .pointer (some ⟨g5, 0, none⟩) :: .int .i64 k :: .int .u8 (bv (byt k)) :: v22 :: .pointer (some ⟨g5, 0, none⟩) :: .int .i64 k :: .bool true :: v22 :: .pointer (some ⟨g5, 1, none⟩) :: .slice (some ⟨g5, 1, none⟩) 16 16 :: v32 :: U16b8 (U8b8 (.agg ((nums .u8 zpg)).toArray :: v32 :: .slice (some ad) ((ndB k b es).length + 4) nc49 :: .int .i64 (((ndB k b es).length + 4) : Int) :: .int .i64 (j : Int) :: u54 :: u55 :: u56 :: u57 :: u58 :: u59 :: u60 :: u61 :: undef :: []))) ∧ St w (fun _ => False) w_ ([blk g38 ((nums .u8 (padN 256 (sealB (ndB k b es)) j))) 27, row kByte rfl 5 (.slice (some ad) ((ndB k b es).length + 4) nc49) (sealB (ndB k b es)), row kByte rfl 5 v32 (ndB k b es), blk g8 ((nums .u8 zpg)) 27, blk g5 (Value.int .i64 k :: ((nums .u8 (b.map bv)) ++ ([Value.slice A es.length c]))) 52]) ∧ (j ≤ ((ndB k b es).length + 4))) (fun i_ => match i_ with | j => ((ndB k b es).length + 4) - j) 0 ?_ ?_
        · exact ⟨_, _, _, _, _, _, _, _, _, _, rfl, (by rw [padN_zero]; exact (((((HS.front 4 rfl).front 4 rfl).front 3 rfl).front 3 rfl).front 4 rfl)), (by omega)⟩
        · clear HS
          rintro j a_ w53 ⟨u8, u9, u54, u55, u56, u57, u58, u59, u60, u61, rfl, HS, hI⟩ J51 hJ52
          have hj := hI
          refine wp_seq_k (fun K54 hK55 => ?_)
          refine c_region (fun ops57 hops56 => ?_)
          clear hops56
          refine p_run _ (x_cmp (k := .i64) (m := (j : Int)) (n := (((ndB k b es).length + 4) : Int)) .lss (decide ((j : Int) < (((ndB k b es).length + 4) : Int))) rfl rfl rfl rfl rfl) rfl ?_
          refine wpList_nil ?_
          refine hK55 _ _ ?_
          refine wp_seq_k (fun K58 hK59 => ?_)
          refine c_cond (t := decide ((j : Int) < (((ndB k b es).length + 4) : Int))) rfl (fun hc60 => ?_) (fun hc60 => ?_)
          · have hlt : j < ((ndB k b es).length + 4) := by have := of_decide_eq_true hc60; omega
            have hjl : j < (sealB (ndB k b es)).length := by omega
            refine wp_skip ?_
            refine hK59 _ _ ?_
            refine wp_seq_k (fun K61 hK62 => ?_)
            refine wp_block ?_
            refine wp_seq_k (fun K63 hK64 => ?_)
            refine c_region (fun ops66 hops65 => ?_)
            clear hops65
            refine p_run _ (x_move (.int .i64 (j : Int)) rfl rfl) rfl ?_
            refine p_run _ (x_index (A := ad) (j := j * 1) (sz := 1) rfl rfl rfl Try.underlying65 (by kernel_rfl) (by omega) rfl) rfl ?_
            refine p_run _ (x_load (.int .u8 (bv (sealB (ndB k b es))[j])) rfl rfl (rd_cell (row_rd (HS.get (.tail _ (.head _)))).2.2 j hjl) (by rfl)) rfl ?_
            refine p_run _ (x_assign (.int .i64 (j : Int)) rfl rfl) rfl ?_
            refine p_run _ (x_assign (.int .u8 (bv (sealB (ndB k b es))[j])) rfl rfl) rfl ?_
            refine wpList_nil ?_
            refine hK64 _ _ ?_
            refine c_region (fun ops68 hops67 => ?_)
            clear hops67
            refine p_run _ (x_move (.int .i64 (j : Int)) rfl rfl) rfl ?_
            refine p_run _ (x_move (.int .u8 (bv (sealB (ndB k b es))[j])) rfl rfl) rfl ?_
            refine p_run _ (x_indexArr (sz := 1) (j := j) rfl rfl rfl Try.underlying27 (by kernel_rfl) (by omega) (by first | rfl | (simp; done) | (simp <;> omega) | omega)) rfl ?_
            refine St.store (cs' := (nums .u8 ((padN 256 (sealB (ndB k b es)) j).set j (bv (sealB (ndB k b es))[j])))) HS (.int .u8 (bv (sealB (ndB k b es))[j])) rfl rfl rfl (by kernel_rfl) (decide_eq_true (by simp only [nums_length, padN_len (show j ≤ (sealB (ndB k b es)).length by omega) (show j ≤ 256 by omega)]; omega)) (nums_set _ _ _ _) ?_
            clear HS
            intro w69 HS
            refine wpList_nil ?_
            refine fr_at (l' := (nv8 k (nums .u8 (b.map bv)) A es.length c :: .pointer (some ⟨g5, 0, none⟩) :: .pointer (some ⟨g8, 0, none⟩) :: .int .i64 0 :: v32 :: undef :: undef :: .pointer (some ⟨g38, 0, none⟩) :: .int .i64 (j : Int) :: .int .u8 (bv (sealB (ndB k b es))[j]) :: nv8 k (nums .u8 (b.map bv)) A es.length c :: .bool true :: .bool false :: undef :: .pointer (some ⟨g5, 0, none⟩) :: .int .i64 k :: .int .u8 (bv (byt k)) :: v22 :: .pointer (some ⟨g5, 0, none⟩) :: .int .i64 k :: .bool true :: v22 :: .pointer (some ⟨g5, 1, none⟩) :: .slice (some ⟨g5, 1, none⟩) 16 16 :: v32 :: U16b8 (U8b8 (.agg ((nums .u8 zpg)).toArray :: v32 :: .slice (some ad) ((ndB k b es).length + 4) nc49 :: .int .i64 (((ndB k b es).length + 4) : Int) :: .int .i64 (j : Int) :: .bool (decide ((j : Int) < (((ndB k b es).length + 4) : Int))) :: .int .i64 (j : Int) :: .pointer (some ((ad).add (j * 1))) :: .int .u8 (bv (sealB (ndB k b es))[j]) :: .int .i64 (j : Int) :: .int .u8 (bv (sealB (ndB k b es))[j]) :: .pointer (some ⟨g38, j, none⟩) :: u61 :: undef :: [])))) rfl ?_
            refine hK62 _ _ ?_
            refine c_region (fun ops71 hops70 => ?_)
            clear hops70
            refine p_run _ (x_arith (k := .i64) (m := (j : Int)) (n := 1) .add (((j + 1 : Nat) : Int)) rfl rfl rfl (show IntKind.i64.wrap ((j : Int) + 1) = ((j + 1 : Nat) : Int) from ((wr64' (by omega)).trans (by omega))) rfl) rfl ?_
            refine p_run _ (x_move (.int .i64 ((j + 1 : Nat) : Int)) rfl rfl) rfl ?_
            refine wpList_nil ?_
            refine fr_at (l' := (nv8 k (nums .u8 (b.map bv)) A es.length c :: .pointer (some ⟨g5, 0, none⟩) :: .pointer (some ⟨g8, 0, none⟩) :: .int .i64 0 :: v32 :: undef :: undef :: .pointer (some ⟨g38, 0, none⟩) :: .int .i64 (j : Int) :: .int .u8 (bv (sealB (ndB k b es))[j]) :: nv8 k (nums .u8 (b.map bv)) A es.length c :: .bool true :: .bool false :: undef :: .pointer (some ⟨g5, 0, none⟩) :: .int .i64 k :: .int .u8 (bv (byt k)) :: v22 :: .pointer (some ⟨g5, 0, none⟩) :: .int .i64 k :: .bool true :: v22 :: .pointer (some ⟨g5, 1, none⟩) :: .slice (some ⟨g5, 1, none⟩) 16 16 :: v32 :: U16b8 (U8b8 (.agg ((nums .u8 zpg)).toArray :: v32 :: .slice (some ad) ((ndB k b es).length + 4) nc49 :: .int .i64 (((ndB k b es).length + 4) : Int) :: .int .i64 ((j + 1 : Nat) : Int) :: .bool (decide ((j : Int) < (((ndB k b es).length + 4) : Int))) :: .int .i64 (j : Int) :: .pointer (some ((ad).add (j * 1))) :: .int .u8 (bv (sealB (ndB k b es))[j]) :: .int .i64 (j : Int) :: .int .u8 (bv (sealB (ndB k b es))[j]) :: .pointer (some ⟨g38, j, none⟩) :: .int .i64 ((j + 1 : Nat) : Int) :: undef :: [])))) rfl ?_
            rw [padN_set hjl (by omega)] at HS
            refine hJ52 (j + 1) _ _ ?_ ?_
            · show ((ndB k b es).length + 4) - (j + 1) < ((ndB k b es).length + 4) - j; omega
            · exact ⟨_, _, _, _, _, _, _, _, _, _, rfl, (((((HS.front 4 rfl).front 4 rfl).front 4 rfl).front 4 rfl).front 4 rfl), (by omega)⟩
          · have hlt : j = ((ndB k b es).length + 4) := by have := of_decide_eq_false hc60; omega
            subst hlt
            rw [pd_pad] at HS
            refine wp_exit ?_
            refine hK43 _ _ ?_
            refine wp_seq_k (fun K72 hK73 => ?_)
            refine c_region (fun ops75 hops74 => ?_)
            clear hops74
            refine p_run _ (x_loads ((nums .u8 ((pdB (ndB k b es)).map bv))) 256 rfl rfl (bkCells (HS.get (.head _)) 0 _ (whole _)) (by rfl) (by kernel_rfl) (by simp [List.length_map, nums_length, pdB_length hfit])) rfl ?_
            refine St.stores (cs' := ((nums .u8 ((pdB (ndB k b es)).map bv)))) (HS.front 3 rfl) ((nums .u8 ((pdB (ndB k b es)).map bv))) 256 rfl rfl (nums_one _ _) (by kernel_rfl) (by simp [List.length_map, nums_length, pdB_length hfit]) (by simp [List.length_map, nums_length, pdB_length hfit, zlen]) (lay_all _ _ (by simp [List.length_map, nums_length, pdB_length hfit, zlen])) ?_
            clear HS
            intro w76 HS
            refine p_run _ (x_assign (.int .i64 0) rfl rfl) rfl ?_
            refine wpList_nil ?_
            refine hK73 _ _ ?_
            refine wp_ret ?_
            try simp only [Exit.inBlock, Exit.then]
            refine c_ret (.tuple [.agg ((nums .u8 ((pdB (ndB k b es)).map bv))).toArray, .int .i64 0].toArray) (r_ct rfl rfl (run_loadVar_aggn (by rfl) ((nums .u8 ((pdB (ndB k b es)).map bv))) 256 (by kernel_rfl) (by simp [List.length_map, nums_length, pdB_length hfit]) (bkCells (HS.get (.head _)) 0 _ (whole _))) rfl) ?_
            rw [(lf_yes hok).1, (lf_yes hok).2]
            exact ⟨rfl, HS.belowOf⟩
    · skip
      refine c_enter Try.func40 rfl 63 rfl (nv8 k (nums .u8 (b.map bv)) A es.length c :: U32b8 (U16b8 (U8b8 (U4b8 (undef :: undef :: []))))) rfl ?_
      refine wp_seq_k (fun K1 hK2 => ?_)
      refine c_region (fun ops4 hops3 => ?_)
      clear hops3
      refine St.wBox HS (cs := (Value.int .i64 k :: ((nums .u8 (b.map bv)) ++ ([Value.slice A es.length c])))) (nv8 k (nums .u8 (b.map bv)) A es.length c) rfl rfl ?_
      clear HS
      intro g5 w6 hg7 HS
      refine St.wAlloc HS (cs := ((nums .u8 zpg))) (.agg ((nums .u8 zpg)).toArray) (by kernel_rfl) rfl ?_
      clear HS
      intro g8 w9 hg10 HS
      refine p_run _ (x_assign (.int .i64 0) rfl rfl) rfl ?_
      refine wpList_nil ?_
      refine hK2 _ _ ?_
      refine wp_seq_k (fun K11 hK12 => ?_)
      refine wp_seq_k (fun K13 hK14 => ?_)
      refine c_region (fun ops16 hops15 => ?_)
      clear hops15
      refine p_run _ (x_loads (Value.int .i64 k :: ((nums .u8 (b.map bv)) ++ ([Value.slice A es.length c]))) 18 rfl rfl (bkCells (HS.get (.tail _ (.head _))) 0 _ (whole _)) (by rfl) (by kernel_rfl) (by simp [List.length_map, hb, nums_length])) rfl ?_
      refine w_call [nv8 k (nums .u8 (b.map bv)) A es.length c] Try.func59 (by kernel_rfl) (by rfl) rfl ?_
      refine (rright_node _ k b hb A c es (Kd.C_below hr HS.belowOf) hl).mono ?_
      rintro e w17 ⟨he_, hb_⟩
      rw [hok] at he_
      subst he_
      replace HS := HS.here hb_
      clear hb_
      refine ⟨_, rfl, ?_⟩
      refine p_run _ (x_not true rfl rfl) rfl ?_
      refine wpList_nil ?_
      refine hK14 _ _ ?_
      refine c_false rfl ?_
      refine wp_skip ?_
      refine hK12 _ _ ?_
      refine wp_seq_k (fun K18 hK19 => ?_)
      refine c_region (fun ops21 hops20 => ?_)
      clear hops20
      refine p_run _ (x_field (j := 0) _ _ rfl rfl Try.underlying52 rfl (by rfl) rfl) rfl ?_
      refine p_run _ (x_load (.int .i64 k) rfl rfl (bkCell (HS.get (.tail _ (.head _))) 0 _ rfl) (by rfl)) rfl ?_
      refine p_run _ (x_conv (k := .i64) (m := k) .u8 ((bv (byt k))) rfl (by rw [Try.underlying3]; rfl) Try.underlying5 rfl (conv_byt _)) rfl ?_
      refine St.wLitB HS [(byt k)] rfl Try.underlying65 (by kernel_rfl) (by decide) (by kernel_rfl) ?_
      clear HS
      intro v22 w23 HS
      refine fr_to (l' := (nv8 k (nums .u8 (b.map bv)) A es.length c :: .pointer (some ⟨g5, 0, none⟩) :: .pointer (some ⟨g8, 0, none⟩) :: .int .i64 0 :: U4b8 (undef :: undef :: nv8 k (nums .u8 (b.map bv)) A es.length c :: .bool true :: .bool false :: undef :: .pointer (some ⟨g5, 0, none⟩) :: .int .i64 k :: .int .u8 (bv (byt k)) :: v22 :: U32b8 (U8b8 (U4b8 (undef :: [])))))) rfl ?_
      refine p_run _ (x_assign (v22) rfl rfl) rfl ?_
      refine wpList_nil ?_
      refine hK19 _ _ ?_
      refine wp_seq_k (fun K24 hK25 => ?_)
      refine wp_seq_k (fun K26 hK27 => ?_)
      refine c_region (fun ops29 hops28 => ?_)
      clear hops28
      refine p_run _ (x_field (j := 0) _ _ rfl rfl Try.underlying52 rfl (by rfl) rfl) rfl ?_
      refine p_run _ (x_load (.int .i64 k) rfl rfl (bkCell (HS.get (.tail _ (.tail _ (.head _)))) 0 _ rfl) (by rfl)) rfl ?_
      refine p_run _ (x_cmp (k := .i64) (m := k) (n := 1) .eql false rfl rfl rfl (cmp_not hk) rfl) rfl ?_
      refine wpList_nil ?_
      refine hK27 _ _ ?_
      refine c_false rfl ?_
      refine wp_seq_k (fun K30 hK31 => ?_)
      refine c_region (fun ops33 hops32 => ?_)
      clear hops32
      refine p_run _ (x_move (v22) rfl rfl) rfl ?_
      refine p_run _ (x_field (j := 17) _ _ rfl rfl Try.underlying52 rfl (by rfl) rfl) rfl ?_
      refine p_run _ (x_load (.slice A es.length c) rfl rfl (bkCell (HS.get (.tail _ (.tail _ (.head _)))) 17 _ (by simp [List.getElem?_append, List.length_map, hb, nums_length])) (by rfl)) rfl ?_
      refine p_run _ (x_len rfl rfl Try.underlying50) rfl ?_
      refine p_run _ (x_conv (k := .i64) (m := (es.length : Int)) .u8 ((bv (byt (es.length : Int)))) rfl (by rw [Try.underlying3]; rfl) Try.underlying5 rfl (conv_byt _)) rfl ?_
      refine St.wLit1 HS [.int .u8 (bv (byt (es.length : Int)))] 1 (.int .u8 0) (.int .u8 (bv (byt (es.length : Int)))) Try.underlying65 (by kernel_rfl) (by decide) rfl rfl rfl ?_
      clear HS
      intro g34 w35 hg36 HS
      refine fr_to (l' := (nv8 k (nums .u8 (b.map bv)) A es.length c :: .pointer (some ⟨g5, 0, none⟩) :: .pointer (some ⟨g8, 0, none⟩) :: .int .i64 0 :: v22 :: U4b8 (undef :: nv8 k (nums .u8 (b.map bv)) A es.length c :: .bool true :: .bool false :: undef :: .pointer (some ⟨g5, 0, none⟩) :: .int .i64 k :: .int .u8 (bv (byt k)) :: v22 :: .pointer (some ⟨g5, 0, none⟩) :: .int .i64 k :: .bool false :: U4b8 (v22 :: .pointer (some ⟨g5, 17, none⟩) :: .slice A es.length c :: .int .i64 (es.length : Int) :: .int .u8 (bv (byt (es.length : Int))) :: .slice (some ⟨g34, 0, none⟩) 1 1 :: U32b8 ([]))))) rfl ?_
      replace HS := (HS.front 1 rfl)
      refine St.wAppend HS (.int .u8 0) 1 Try.underlying65 (by kernel_rfl) rfl (by decide) (by decide) [(byt (es.length : Int))] _ _ _ rfl rfl (rd_blkn (xs := [(byt (es.length : Int))]) (HS.get (.tail _ (.head _))) rfl (by omega)) (fun _ _ h => h) (by simp) ?_
      clear HS
      intro v37 w38 HS
      refine p_run _ (x_assign (v37) rfl rfl) rfl ?_
      refine wpList_nil ?_
      refine hK31 _ _ ?_
      refine wp_seq_k (fun K39 hK40 => ?_)
      refine c_region (fun ops42 hops41 => ?_)
      clear hops41
      refine p_run _ (x_field (j := 17) _ _ rfl rfl Try.underlying52 rfl (by rfl) rfl) rfl ?_
      refine p_run _ (x_load (.slice A es.length c) rfl rfl (bkCell (HS.get (.tail _ (.tail _ (.tail _ (.head _))))) 17 _ (by simp [List.getElem?_append, List.length_map, hb, nums_length])) (by rfl)) rfl ?_
      refine p_run _ (x_len rfl rfl Try.underlying50) rfl ?_
      refine p_run _ (x_move (.int .i64 0) rfl rfl) rfl ?_
      refine wpList_nil ?_
      refine fr_at (l' := (nv8 k (nums .u8 (b.map bv)) A es.length c :: .pointer (some ⟨g5, 0, none⟩) :: .pointer (some ⟨g8, 0, none⟩) :: .int .i64 0 :: v37 :: U4b8 (undef :: nv8 k (nums .u8 (b.map bv)) A es.length c :: .bool true :: .bool false :: undef :: .pointer (some ⟨g5, 0, none⟩) :: .int .i64 k :: .int .u8 (bv (byt k)) :: v22 :: .pointer (some ⟨g5, 0, none⟩) :: .int .i64 k :: .bool false :: U4b8 (v22 :: .pointer (some ⟨g5, 17, none⟩) :: .slice A es.length c :: .int .i64 (es.length : Int) :: .int .u8 (bv (byt (es.length : Int))) :: .slice (some ⟨g34, 0, none⟩) 1 1 :: v37 :: .pointer (some ⟨g5, 17, none⟩) :: .slice A es.length c :: .int .i64 (es.length : Int) :: .int .i64 0 :: U16b8 (U8b8 (undef :: undef :: undef :: [])))))) rfl ?_
      refine hK40 _ _ ?_
      refine wp_block ?_
      refine c_loop (ι := Nat × Value) (fun i_ a_ w_ => match i_ with | (j, u3) => ∃ (u6 : Value) (u36 : Value) (u37 : Value) (u38 : Value) (u39 : Value) (u40 : Value) (u41 : Value) (u42 : Value) (u43 : Value) (u44 : Value) (u45 : Value) (u46 : Value) (u47 : Value) (u48 : Value), a_ = fr (nv8 k (nums .u8 (b.map bv)) A es.length c :: .pointer (some ⟨g5, 0, none⟩) :: .pointer (some ⟨g8, 0, none⟩) :: .int .i64 0 :: u3 :: undef :: u6 :: undef :: undef :: undef :: nv8 k (nums .u8 (b.map bv)) A es.length c :: .bool true :: .bool false :: undef :: .pointer (some ⟨g5, 0, none⟩) :: .int .i64 k :: .int .u8 (bv (byt k)) :: v22 :: .pointer (some ⟨g5, 0, none⟩) :: .int .i64 k :: .bool false :: U4b8 (v22 :: .pointer (some ⟨g5, 17, none⟩) :: .slice A es.length c :: .int .i64 (es.length : Int) :: .int .u8 (bv (byt (es.length : Int))) :: .slice (some ⟨g34, 0, none⟩) 1 1 :: v37 :: .pointer (some ⟨g5, 17, none⟩) :: .slice A es.length c :: .int .i64 (es.length : Int) :: .int .i64 (j : Int) :: u36 :: u37 :: u38 :: u39 :: u40 :: u41 :: u42 :: u43 :: u44 :: u45 :: u46 :: u47 :: u48 :: U8b8 (U4b8 (undef :: undef :: [])))) ∧ St w (fun _ => False) w_ ([row kByte rfl 5 u3 ([byt k, byt (es.length : Int)] ++ esB (es.take j)), blk g8 ((nums .u8 zpg)) 27, blk g5 (Value.int .i64 k :: ((nums .u8 (b.map bv)) ++ ([Value.slice A es.length c]))) 52]) ∧ (j ≤ es.length)) (fun i_ => match i_ with | (j, u3) => es.length - j) (0, v37) ?_ ?_
      · exact ⟨_, _, _, _, _, _, _, _, _, _, _, _, _, _, rfl, ((((HS.front 1 rfl).drop.front 2 rfl).front 2 rfl).front 2 rfl), (by omega)⟩
      · clear HS
        rintro ⟨j, u3⟩ a_ w45 ⟨u6, u36, u37, u38, u39, u40, u41, u42, u43, u44, u45, u46, u47, u48, rfl, HS, hI⟩ J43 hJ44
        refine wp_seq_k (fun K46 hK47 => ?_)
        refine c_region (fun ops49 hops48 => ?_)
        clear hops48
        refine p_run _ (x_cmp (k := .i64) (m := (j : Int)) (n := (es.length : Int)) .lss (decide ((j : Int) < (es.length : Int))) rfl rfl rfl rfl rfl) rfl ?_
        refine wpList_nil ?_
        refine hK47 _ _ ?_
        refine wp_seq_k (fun K50 hK51 => ?_)
        refine c_cond (t := decide ((j : Int) < (es.length : Int))) rfl (fun hc52 => ?_) (fun hc52 => ?_)
        · have hlt : j < es.length := by have := of_decide_eq_true hc52; omega
          obtain ⟨ad, x, rfl, hx, hcell⟩ := en_get (Kd.C_below hr HS.belowOf) j hlt
          refine wp_skip ?_
          refine hK51 _ _ ?_
          refine wp_seq_k (fun K53 hK54 => ?_)
          refine wp_block ?_
          refine wp_seq_k (fun K55 hK56 => ?_)
          refine c_region (fun ops58 hops57 => ?_)
          clear hops57
          refine p_run _ (x_index (A := ad) (j := j * 2) (sz := 2) rfl rfl rfl Try.underlying50 (by kernel_rfl) (by omega) rfl) rfl ?_
          refine p_run _ (x_loads [.int .i64 x.1, .int .i64 x.2] 2 rfl rfl hcell (by rfl) (by kernel_rfl) rfl) rfl ?_
          refine St.wAlloc HS (cs := [.int .i64 0, .int .i64 0]) (.agg [.int .i64 0, .int .i64 0].toArray) (by kernel_rfl) rfl ?_
          clear HS
          intro g59 w60 hg61 HS
          refine St.stores (cs' := [.int .i64 x.1, .int .i64 x.2]) HS [.int .i64 x.1, .int .i64 x.2] 2 rfl rfl (by rfl) (by kernel_rfl) rfl (by simp) rfl ?_
          clear HS
          intro w62 HS
          refine wpList_nil ?_
          refine hK56 _ _ ?_
          refine c_region (fun ops64 hops63 => ?_)
          clear hops63
          refine p_run _ (x_move (u3) rfl rfl) rfl ?_
          refine p_run _ (x_field (j := 0) _ _ rfl rfl Try.underlying62 rfl (by rfl) rfl) rfl ?_
          refine p_run _ (x_load (.int .i64 x.1) rfl rfl (bkCell (HS.get (.head _)) 0 _ rfl) (by rfl)) rfl ?_
          refine p_run _ (x_conv (k := .i64) (m := x.1) .u8 ((bv (byt x.1))) rfl (by rw [Try.underlying3]; rfl) Try.underlying5 rfl (conv_byt _)) rfl ?_
          refine p_run _ (x_field (j := 1) _ _ rfl rfl Try.underlying62 rfl (by rfl) rfl) rfl ?_
          refine p_run (l' := (nv8 k (nums .u8 (b.map bv)) (some ad) es.length c :: .pointer (some ⟨g5, 0, none⟩) :: .pointer (some ⟨g8, 0, none⟩) :: .int .i64 0 :: u3 :: undef :: .pointer (some ⟨g59, 0, none⟩) :: undef :: undef :: undef :: nv8 k (nums .u8 (b.map bv)) (some ad) es.length c :: .bool true :: .bool false :: undef :: .pointer (some ⟨g5, 0, none⟩) :: .int .i64 k :: .int .u8 (bv (byt k)) :: v22 :: .pointer (some ⟨g5, 0, none⟩) :: .int .i64 k :: .bool false :: U4b8 (v22 :: .pointer (some ⟨g5, 17, none⟩) :: .slice (some ad) es.length c :: .int .i64 (es.length : Int) :: .int .u8 (bv (byt (es.length : Int))) :: .slice (some ⟨g34, 0, none⟩) 1 1 :: v37 :: .pointer (some ⟨g5, 17, none⟩) :: .slice (some ad) es.length c :: .int .i64 (es.length : Int) :: .int .i64 (j : Int) :: .bool (decide ((j : Int) < (es.length : Int))) :: .pointer (some ((ad).add (j * 2))) :: .agg ([.int .i64 x.1, .int .i64 x.2] : List Value).toArray :: u3 :: .pointer (some ⟨g59, 0, none⟩) :: .int .i64 x.1 :: .int .u8 (bv (byt x.1)) :: .pointer (some ⟨g59, 1, none⟩) :: .int .i64 x.2 :: u45 :: u46 :: u47 :: u48 :: U8b8 (U4b8 (undef :: undef :: []))))) _ (x_load (.int .i64 x.2) rfl rfl (bkCell (HS.get (.head _)) 1 _ rfl) (by rfl)) rfl ?_
          refine p_run _ (x_conv (k := .i64) (m := x.2) .u8 ((bv (byt x.2))) rfl (by rw [Try.underlying3]; rfl) Try.underlying5 rfl (conv_byt _)) rfl ?_
          refine St.wLit HS (cs := [.int .u8 (bv (byt x.1)), .int .u8 (bv (byt x.2))]) 1 (.int .u8 0) Try.underlying65 (by kernel_rfl) (by decide) (by kernel_rfl) ?_
          clear HS
          intro g65 w66 hg67 HS
          replace HS := (HS.front 2 rfl)
          refine St.wAppend HS (.int .u8 0) 1 Try.underlying65 (by kernel_rfl) rfl (by decide) (by decide) [(byt x.1), (byt x.2)] _ _ _ rfl rfl (rd_blkn (xs := [(byt x.1), (byt x.2)]) (HS.get (.tail _ (.head _))) rfl (by omega)) (fun _ _ h => h) (by rw [List.length_append, esB_length, List.length_take]; simp; omega) ?_
          clear HS
          intro v68 w69 HS
          refine p_run _ (x_assign (v68) rfl rfl) rfl ?_
          refine wpList_nil ?_
          refine hK54 _ _ ?_
          refine c_region (fun ops71 hops70 => ?_)
          clear hops70
          refine p_run _ (x_arith (k := .i64) (m := (j : Int)) (n := 1) .add (((j + 1 : Nat) : Int)) rfl rfl rfl (show IntKind.i64.wrap ((j : Int) + 1) = ((j + 1 : Nat) : Int) from ((wr64' (by omega)).trans (by omega))) rfl) rfl ?_
          refine p_run _ (x_move (.int .i64 ((j + 1 : Nat) : Int)) rfl rfl) rfl ?_
          refine wpList_nil ?_
          refine fr_at (l' := (nv8 k (nums .u8 (b.map bv)) (some ad) es.length c :: .pointer (some ⟨g5, 0, none⟩) :: .pointer (some ⟨g8, 0, none⟩) :: .int .i64 0 :: v68 :: undef :: .pointer (some ⟨g59, 0, none⟩) :: undef :: undef :: undef :: nv8 k (nums .u8 (b.map bv)) (some ad) es.length c :: .bool true :: .bool false :: undef :: .pointer (some ⟨g5, 0, none⟩) :: .int .i64 k :: .int .u8 (bv (byt k)) :: v22 :: .pointer (some ⟨g5, 0, none⟩) :: .int .i64 k :: .bool false :: U4b8 (v22 :: .pointer (some ⟨g5, 17, none⟩) :: .slice (some ad) es.length c :: .int .i64 (es.length : Int) :: .int .u8 (bv (byt (es.length : Int))) :: .slice (some ⟨g34, 0, none⟩) 1 1 :: v37 :: .pointer (some ⟨g5, 17, none⟩) :: .slice (some ad) es.length c :: .int .i64 (es.length : Int) :: .int .i64 ((j + 1 : Nat) : Int) :: .bool (decide ((j : Int) < (es.length : Int))) :: .pointer (some ((ad).add (j * 2))) :: .agg ([.int .i64 x.1, .int .i64 x.2] : List Value).toArray :: u3 :: .pointer (some ⟨g59, 0, none⟩) :: .int .i64 x.1 :: .int .u8 (bv (byt x.1)) :: .pointer (some ⟨g59, 1, none⟩) :: .int .i64 x.2 :: .int .u8 (bv (byt x.2)) :: .slice (some ⟨g65, 0, none⟩) 2 2 :: v68 :: .int .i64 ((j + 1 : Nat) : Int) :: U8b8 (U4b8 (undef :: undef :: []))))) rfl ?_
          rw [List.append_assoc, ← es_snoc hx] at HS
          refine hJ44 (j + 1, v68) _ _ ?_ ?_
          · show es.length - (j + 1) < es.length - j; omega
          · exact ⟨_, _, _, _, _, _, _, _, _, _, _, _, _, _, rfl, (((((HS.front 1 rfl).drop.front 1 rfl).drop.front 2 rfl).front 2 rfl).front 2 rfl), (by omega)⟩
        · have hlt : j = es.length := by have := of_decide_eq_false hc52; omega
          subst hlt
          rw [List.take_length, ← nd_more hk] at HS
          refine wp_exit ?_
          refine hK25 _ _ ?_
          refine wp_seq_k (fun K72 hK73 => ?_)
          refine c_region (fun ops75 hops74 => ?_)
          clear hops74
          refine p_run _ (x_build ((nums .u8 zpg)) rfl (by kernel_rfl)) rfl ?_
          refine St.wAlloc HS (cs := ((nums .u8 zpg))) (.agg ((nums .u8 zpg)).toArray) (by kernel_rfl) rfl ?_
          clear HS
          intro g76 w77 hg78 HS
          refine St.stores (cs' := ((nums .u8 zpg))) HS ((nums .u8 zpg)) 256 rfl rfl (nums_one _ _) (by kernel_rfl) (by simp [nums_length, zlen]) (by simp [nums_length, zlen]) (lay_all _ _ (by simp [nums_length, zlen])) ?_
          clear HS
          intro w79 HS
          refine wpList_nil ?_
          refine hK73 _ _ ?_
          refine wp_seq_k (fun K80 hK81 => ?_)
          refine wp_seq_k (fun K82 hK83 => ?_)
          refine c_region (fun ops85 hops84 => ?_)
          clear hops84
          refine p_run _ (x_move (u3) rfl rfl) rfl ?_
          refine w_call [u3] Try.func33 (by kernel_rfl) (by rfl) rfl ?_
          replace HS := (HS.front 1 rfl)
          refine (rsealR_any HS ((ndB k b es).length + 4) (sealB_length _) (by omega)).mono ?_
          clear HS
          rintro e w88 ⟨oa86, nc87, rfl, HS⟩
          refine ⟨_, rfl, ?_⟩
          refine p_run _ (x_len rfl rfl Try.underlying65) rfl ?_
          refine p_run _ (x_move (.int .i64 0) rfl rfl) rfl ?_
          refine wpList_nil ?_
          refine fr_at (l' := (nv8 k (nums .u8 (b.map bv)) A es.length c :: .pointer (some ⟨g5, 0, none⟩) :: .pointer (some ⟨g8, 0, none⟩) :: .int .i64 0 :: u3 :: undef :: u6 :: .pointer (some ⟨g76, 0, none⟩) :: undef :: undef :: nv8 k (nums .u8 (b.map bv)) A es.length c :: .bool true :: .bool false :: undef :: .pointer (some ⟨g5, 0, none⟩) :: .int .i64 k :: .int .u8 (bv (byt k)) :: v22 :: .pointer (some ⟨g5, 0, none⟩) :: .int .i64 k :: .bool false :: U4b8 (v22 :: .pointer (some ⟨g5, 17, none⟩) :: .slice A es.length c :: .int .i64 (es.length : Int) :: .int .u8 (bv (byt (es.length : Int))) :: .slice (some ⟨g34, 0, none⟩) 1 1 :: v37 :: .pointer (some ⟨g5, 17, none⟩) :: .slice A es.length c :: .int .i64 (es.length : Int) :: .int .i64 (es.length : Int) :: .bool (decide ((es.length : Int) < (es.length : Int))) :: u37 :: u38 :: u39 :: u40 :: u41 :: u42 :: u43 :: u44 :: u45 :: u46 :: u47 :: u48 :: .agg ((nums .u8 zpg)).toArray :: u3 :: .slice oa86 ((ndB k b es).length + 4) nc87 :: .int .i64 (((ndB k b es).length + 4) : Int) :: .int .i64 0 :: U8b8 (undef :: [])))) rfl ?_
          refine hK83 _ _ ?_
          refine wp_block ?_
          have hsl : (sealB (ndB k b es)).length = ((ndB k b es).length + 4) := sealB_length _
          obtain ⟨ad, hA⟩ := rd_some (row_rd (HS.get (.head _))).2.2 (by omega)
          subst hA
          refine c_loop (ι := Nat) (fun i_ a_ w_ => match i_ with | j => ∃ (u8 : Value) (u9 : Value) (u54 : Value) (u55 : Value) (u56 : Value) (u57 : Value) (u58 : Value) (u59 : Value) (u60 : Value) (u61 : Value), a_ = fr (nv8 k (nums .u8 (b.map bv)) A es.length c :: .pointer (some ⟨g5, 0, none⟩) :: .pointer (some ⟨g8, 0, none⟩) :: .int .i64 0 :: u3 :: undef :: u6 :: .pointer (some ⟨g76, 0, none⟩) :: u8 :: u9 :: nv8 k (nums .u8 (b.map bv)) A es.length c :: .bool true :: .bool false :: undef :: .pointer (some ⟨g5, 0, none⟩) :: .int .i64 k :: .int .u8 (bv (byt k)) :: v22 :: .pointer (some ⟨g5, 0, none⟩) :: .int .i64 k :: .bool false :: U4b8 (v22 :: .pointer (some ⟨g5, 17, none⟩) :: .slice A es.length c :: .int .i64 (es.length : Int) :: .int .u8 (bv (byt (es.length : Int))) :: .slice (some ⟨g34, 0, none⟩) 1 1 :: v37 :: .pointer (some ⟨g5, 17, none⟩) :: .slice A es.length c :: .int .i64 (es.length : Int) :: .int .i64 (es.length : Int) :: .bool (decide ((es.length : Int) < (es.length : Int))) :: u37 :: u38 :: u39 :: u40 :: u41 :: u42 :: u43 :: u44 :: u45 :: u46 :: u47 :: u48 :: .agg ((nums .u8 zpg)).toArray :: u3 :: .slice (some ad) ((ndB k b es).length + 4) nc87 :: .int .i64 (((ndB k b es).length + 4) : Int) :: .int .i64 (j : Int) :: u54 :: u55 :: u56 :: u57 :: u58 :: u59 :: u60 :: u61 :: undef :: [])) ∧ St w (fun _ => False) w_ ([blk g76 ((nums .u8 (padN 256 (sealB (ndB k b es)) j))) 27, row kByte rfl 5 (.slice (some ad) ((ndB k b es).length + 4) nc87) (sealB (ndB k b es)), row kByte rfl 5 u3 (ndB k b es), blk g8 ((nums .u8 zpg)) 27, blk g5 (Value.int .i64 k :: ((nums .u8 (b.map bv)) ++ ([Value.slice A es.length c]))) 52]) ∧ (j ≤ ((ndB k b es).length + 4))) (fun i_ => match i_ with | j => ((ndB k b es).length + 4) - j) 0 ?_ ?_
          · exact ⟨_, _, _, _, _, _, _, _, _, _, rfl, (by rw [padN_zero]; exact (((((HS.front 4 rfl).front 4 rfl).front 3 rfl).front 3 rfl).front 4 rfl)), (by omega)⟩
          · clear HS
            rintro j a_ w91 ⟨u8, u9, u54, u55, u56, u57, u58, u59, u60, u61, rfl, HS, hI⟩ J89 hJ90
            have hj := hI
            refine wp_seq_k (fun K92 hK93 => ?_)
            refine c_region (fun ops95 hops94 => ?_)
            clear hops94
            refine p_run _ (x_cmp (k := .i64) (m := (j : Int)) (n := (((ndB k b es).length + 4) : Int)) .lss (decide ((j : Int) < (((ndB k b es).length + 4) : Int))) rfl rfl rfl rfl rfl) rfl ?_
            refine wpList_nil ?_
            refine hK93 _ _ ?_
            refine wp_seq_k (fun K96 hK97 => ?_)
            refine c_cond (t := decide ((j : Int) < (((ndB k b es).length + 4) : Int))) rfl (fun hc98 => ?_) (fun hc98 => ?_)
            · have hlt : j < ((ndB k b es).length + 4) := by have := of_decide_eq_true hc98; omega
              have hjl : j < (sealB (ndB k b es)).length := by omega
              refine wp_skip ?_
              refine hK97 _ _ ?_
              refine wp_seq_k (fun K99 hK100 => ?_)
              refine wp_block ?_
              refine wp_seq_k (fun K101 hK102 => ?_)
              refine c_region (fun ops104 hops103 => ?_)
              clear hops103
              refine p_run _ (x_move (.int .i64 (j : Int)) rfl rfl) rfl ?_
              refine p_run _ (x_index (A := ad) (j := j * 1) (sz := 1) rfl rfl rfl Try.underlying65 (by kernel_rfl) (by omega) rfl) rfl ?_
              refine p_run _ (x_load (.int .u8 (bv (sealB (ndB k b es))[j])) rfl rfl (rd_cell (row_rd (HS.get (.tail _ (.head _)))).2.2 j hjl) (by rfl)) rfl ?_
              refine p_run _ (x_assign (.int .i64 (j : Int)) rfl rfl) rfl ?_
              refine p_run _ (x_assign (.int .u8 (bv (sealB (ndB k b es))[j])) rfl rfl) rfl ?_
              refine wpList_nil ?_
              refine hK102 _ _ ?_
              refine c_region (fun ops106 hops105 => ?_)
              clear hops105
              refine p_run _ (x_move (.int .i64 (j : Int)) rfl rfl) rfl ?_
              refine p_run _ (x_move (.int .u8 (bv (sealB (ndB k b es))[j])) rfl rfl) rfl ?_
              refine p_run _ (x_indexArr (sz := 1) (j := j) rfl rfl rfl Try.underlying27 (by kernel_rfl) (by omega) (by first | rfl | (simp; done) | (simp <;> omega) | omega)) rfl ?_
              refine St.store (cs' := (nums .u8 ((padN 256 (sealB (ndB k b es)) j).set j (bv (sealB (ndB k b es))[j])))) HS (.int .u8 (bv (sealB (ndB k b es))[j])) rfl rfl rfl (by kernel_rfl) (decide_eq_true (by simp only [nums_length, padN_len (show j ≤ (sealB (ndB k b es)).length by omega) (show j ≤ 256 by omega)]; omega)) (nums_set _ _ _ _) ?_
              clear HS
              intro w107 HS
              refine wpList_nil ?_
              refine fr_at (l' := (nv8 k (nums .u8 (b.map bv)) A es.length c :: .pointer (some ⟨g5, 0, none⟩) :: .pointer (some ⟨g8, 0, none⟩) :: .int .i64 0 :: u3 :: undef :: u6 :: .pointer (some ⟨g76, 0, none⟩) :: .int .i64 (j : Int) :: .int .u8 (bv (sealB (ndB k b es))[j]) :: nv8 k (nums .u8 (b.map bv)) A es.length c :: .bool true :: .bool false :: undef :: .pointer (some ⟨g5, 0, none⟩) :: .int .i64 k :: .int .u8 (bv (byt k)) :: v22 :: .pointer (some ⟨g5, 0, none⟩) :: .int .i64 k :: .bool false :: U4b8 (v22 :: .pointer (some ⟨g5, 17, none⟩) :: .slice A es.length c :: .int .i64 (es.length : Int) :: .int .u8 (bv (byt (es.length : Int))) :: .slice (some ⟨g34, 0, none⟩) 1 1 :: v37 :: .pointer (some ⟨g5, 17, none⟩) :: .slice A es.length c :: .int .i64 (es.length : Int) :: .int .i64 (es.length : Int) :: .bool (decide ((es.length : Int) < (es.length : Int))) :: u37 :: u38 :: u39 :: u40 :: u41 :: u42 :: u43 :: u44 :: u45 :: u46 :: u47 :: u48 :: .agg ((nums .u8 zpg)).toArray :: u3 :: .slice (some ad) ((ndB k b es).length + 4) nc87 :: .int .i64 (((ndB k b es).length + 4) : Int) :: .int .i64 (j : Int) :: .bool (decide ((j : Int) < (((ndB k b es).length + 4) : Int))) :: .int .i64 (j : Int) :: .pointer (some ((ad).add (j * 1))) :: .int .u8 (bv (sealB (ndB k b es))[j]) :: .int .i64 (j : Int) :: .int .u8 (bv (sealB (ndB k b es))[j]) :: .pointer (some ⟨g76, j, none⟩) :: u61 :: undef :: []))) rfl ?_
              refine hK100 _ _ ?_
              refine c_region (fun ops109 hops108 => ?_)
              clear hops108
              refine p_run _ (x_arith (k := .i64) (m := (j : Int)) (n := 1) .add (((j + 1 : Nat) : Int)) rfl rfl rfl (show IntKind.i64.wrap ((j : Int) + 1) = ((j + 1 : Nat) : Int) from ((wr64' (by omega)).trans (by omega))) rfl) rfl ?_
              refine p_run _ (x_move (.int .i64 ((j + 1 : Nat) : Int)) rfl rfl) rfl ?_
              refine wpList_nil ?_
              refine fr_at (l' := (nv8 k (nums .u8 (b.map bv)) A es.length c :: .pointer (some ⟨g5, 0, none⟩) :: .pointer (some ⟨g8, 0, none⟩) :: .int .i64 0 :: u3 :: undef :: u6 :: .pointer (some ⟨g76, 0, none⟩) :: .int .i64 (j : Int) :: .int .u8 (bv (sealB (ndB k b es))[j]) :: nv8 k (nums .u8 (b.map bv)) A es.length c :: .bool true :: .bool false :: undef :: .pointer (some ⟨g5, 0, none⟩) :: .int .i64 k :: .int .u8 (bv (byt k)) :: v22 :: .pointer (some ⟨g5, 0, none⟩) :: .int .i64 k :: .bool false :: U4b8 (v22 :: .pointer (some ⟨g5, 17, none⟩) :: .slice A es.length c :: .int .i64 (es.length : Int) :: .int .u8 (bv (byt (es.length : Int))) :: .slice (some ⟨g34, 0, none⟩) 1 1 :: v37 :: .pointer (some ⟨g5, 17, none⟩) :: .slice A es.length c :: .int .i64 (es.length : Int) :: .int .i64 (es.length : Int) :: .bool (decide ((es.length : Int) < (es.length : Int))) :: u37 :: u38 :: u39 :: u40 :: u41 :: u42 :: u43 :: u44 :: u45 :: u46 :: u47 :: u48 :: .agg ((nums .u8 zpg)).toArray :: u3 :: .slice (some ad) ((ndB k b es).length + 4) nc87 :: .int .i64 (((ndB k b es).length + 4) : Int) :: .int .i64 ((j + 1 : Nat) : Int) :: .bool (decide ((j : Int) < (((ndB k b es).length + 4) : Int))) :: .int .i64 (j : Int) :: .pointer (some ((ad).add (j * 1))) :: .int .u8 (bv (sealB (ndB k b es))[j]) :: .int .i64 (j : Int) :: .int .u8 (bv (sealB (ndB k b es))[j]) :: .pointer (some ⟨g76, j, none⟩) :: .int .i64 ((j + 1 : Nat) : Int) :: undef :: []))) rfl ?_
              rw [padN_set hjl (by omega)] at HS
              refine hJ90 (j + 1) _ _ ?_ ?_
              · show ((ndB k b es).length + 4) - (j + 1) < ((ndB k b es).length + 4) - j; omega
              · exact ⟨_, _, _, _, _, _, _, _, _, _, rfl, (((((HS.front 4 rfl).front 4 rfl).front 4 rfl).front 4 rfl).front 4 rfl), (by omega)⟩
            · have hlt : j = ((ndB k b es).length + 4) := by have := of_decide_eq_false hc98; omega
              subst hlt
              rw [pd_pad] at HS
              refine wp_exit ?_
              refine hK81 _ _ ?_
              refine wp_seq_k (fun K110 hK111 => ?_)
              refine c_region (fun ops113 hops112 => ?_)
              clear hops112
              refine p_run _ (x_loads ((nums .u8 ((pdB (ndB k b es)).map bv))) 256 rfl rfl (bkCells (HS.get (.head _)) 0 _ (whole _)) (by rfl) (by kernel_rfl) (by simp [List.length_map, nums_length, pdB_length hfit])) rfl ?_
              refine St.stores (cs' := ((nums .u8 ((pdB (ndB k b es)).map bv)))) (HS.front 3 rfl) ((nums .u8 ((pdB (ndB k b es)).map bv))) 256 rfl rfl (nums_one _ _) (by kernel_rfl) (by simp [List.length_map, nums_length, pdB_length hfit]) (by simp [List.length_map, nums_length, pdB_length hfit, zlen]) (lay_all _ _ (by simp [List.length_map, nums_length, pdB_length hfit, zlen])) ?_
              clear HS
              intro w114 HS
              refine p_run _ (x_assign (.int .i64 0) rfl rfl) rfl ?_
              refine wpList_nil ?_
              refine hK111 _ _ ?_
              refine wp_ret ?_
              try simp only [Exit.inBlock, Exit.then]
              refine c_ret (.tuple [.agg ((nums .u8 ((pdB (ndB k b es)).map bv))).toArray, .int .i64 0].toArray) (r_ct rfl rfl (run_loadVar_aggn (by rfl) ((nums .u8 ((pdB (ndB k b es)).map bv))) 256 (by kernel_rfl) (by simp [List.length_map, nums_length, pdB_length hfit]) (bkCells (HS.get (.head _)) 0 _ (whole _))) rfl) ?_
              rw [(lf_yes hok).1, (lf_yes hok).2]
              exact ⟨rfl, HS.belowOf⟩

theorem bv_getD (q : List UInt8) (j : Nat) : (q.map bv).getD j 0 = bv (q.getD j 0) := by
  rw [List.getD_eq_getElem?_getD, List.getElem?_map, List.getD_eq_getElem?_getD]
  cases q[j]? <;> rfl
/-- A node's cells while its block is read. -/
def nbC (q : List UInt8) (j : Nat) : List Value := .int .i64 (kN q) :: (nums .u8 (padN 16 ((q.drop 1).take 16) j) ++ [.slice none 0 0])
theorem nbC_zero (q : List UInt8) : nbC q 0 = (.int .i64 (kN q) :: (nums .u8 (zK.map bv) ++ [.slice none 0 0])) := by
  unfold nbC zK
  rw [padN_zero, List.map_replicate]
  rfl
def bl1 (q : List UInt8) : List UInt8 := (q.drop 1).take 16
theorem bl1_len {q : List UInt8} (hq : q.length = 256) : (bl1 q).length = 16 := t16_len hq
theorem nbC_end {q : List UInt8} (hq : q.length = 256) : nbC q 16 = (.int .i64 (kN q) :: (nums .u8 ((bl1 q).map bv) ++ [.slice none 0 0])) := by
  unfold nbC bl1
  have h := padN_all 16 ((q.drop 1).take 16)
  rw [t16_len hq] at h
  rw [h]
  simp
theorem nbC_len {q : List UInt8} (hq : q.length = 256) {j : Nat} (hj : j ≤ 16) : (nbC q j).length = 18 := by
  unfold nbC
  rw [List.length_cons, List.length_append, nums_length, padN_len (show j ≤ ((q.drop 1).take 16).length by rw [t16_len hq]; exact hj) hj]
  rfl
theorem nbC_set {q : List UInt8} (hq : q.length = 256) {j : Nat} (hj : j < 16) : (nbC q j).set (1 + j) (.int .u8 ((q.map bv).getD (1 + j) 0)) = nbC q (j + 1) := by
  have hl : j < ((q.drop 1).take 16).length := by rw [t16_len hq]; exact hj
  have hp := padN_set (N := 16) hl hj
  have he : ((q.drop 1).take 16)[j] = q.getD (1 + j) 0 := by
    rw [List.getElem_take, List.getElem_drop, List.getD_eq_getElem?_getD, List.getElem?_eq_getElem (by omega)]
    rfl
  have e1 : 1 + j = j + 1 := Nat.add_comm 1 j
  rw [e1] at he
  unfold nbC
  rw [e1, List.set_cons_succ, List.set_append_left _ _ (by rw [nums_length, padN_len (by omega) (by omega)]; exact hj), bv_getD, ← he, ← hp]
  congr 2
  unfold nums
  rw [List.map_set]
theorem op_cases (k : Int) (b : List UInt8) (es : List (Int × Int)) (q : List UInt8) : ndOk k b es = false ∨ (ndOk k b es = true ∧ ¬ pdB (ndB k b es) = q) ∨ (ndOk k b es = true ∧ pdB (ndB k b es) = q) := by
  cases ndOk k b es
  · exact .inl rfl
  · by_cases h : pdB (ndB k b es) = q
    · exact .inr (.inr ⟨rfl, h⟩)
    · exact .inr (.inl ⟨rfl, h⟩)
theorem rn_cases (q : List UInt8) {j : Nat} (hj : j ≤ mN q) : (¬ (j : Int) < bv (q.getD 1 0) ∧ j = mN q) ∨ ((j : Int) < bv (q.getD 1 0) ∧ ¬ (j : Int) < 6 ∧ j = mN q) ∨ ((j : Int) < bv (q.getD 1 0) ∧ (j : Int) < 6 ∧ j < mN q) := by
  unfold mN at hj ⊢
  have e : bv (q.getD 1 0) = ((q.getD 1 0).toNat : Int) := rfl
  rw [e]
  omega

set_option maxRecDepth 10000 in
set_option maxHeartbeats 40000000 in
theorem ropen8_any (w : World) (q : List UInt8) (hq : q.length = 256) : Calls Try.prog 26 #[.agg ((nums .u8 (q.map bv))).toArray] w fun e w' => ∃ A c, e = .returned (.tuple #[.agg (Value.int .i64 (opK q) :: (nums .u8 ((opB q).map bv) ++ [Value.slice A (opS q).length c])).toArray, .int .i64 (opE q)]) ∧ St w (fun _ => False) w' [row kEn rfl 62 (.slice A (opS q).length c) (opS q)] := by
  have HS := St.empty w
  by_cases hk : kN q = 1
  · skip
    have e1 : bN q = bl1 q := if_pos hk
    have e2 : eN q = [] := if_pos hk
    refine c_enter Try.func26 rfl 70 rfl (.agg ((nums .u8 (q.map bv))).toArray :: U64b8 (U4b8 (undef :: []))) rfl ?_
    refine wp_seq_k (fun K1 hK2 => ?_)
    refine c_region (fun ops4 hops3 => ?_)
    clear hops3
    refine St.wBox HS (cs := ((nums .u8 (q.map bv)))) (.agg ((nums .u8 (q.map bv))).toArray) rfl rfl ?_
    clear HS
    intro g5 w6 hg7 HS
    refine St.wAlloc HS (cs := (Value.int .i64 0 :: ((nums .u8 (zK.map bv)) ++ ([Value.slice none 0 0])))) (.agg (Value.int .i64 0 :: ((nums .u8 (zK.map bv)) ++ ([Value.slice none 0 0]))).toArray) (by kernel_rfl) rfl ?_
    clear HS
    intro g8 w9 hg10 HS
    refine p_run _ (x_assign (.int .i64 0) rfl rfl) rfl ?_
    refine wpList_nil ?_
    refine hK2 _ _ ?_
    refine wp_seq_k (fun K11 hK12 => ?_)
    refine c_region (fun ops14 hops13 => ?_)
    clear hops13
    refine p_run _ (x_indexArr (sz := 1) (j := 0) rfl rfl rfl Try.underlying27 (by kernel_rfl) (by omega) rfl) rfl ?_
    refine p_run _ (x_load (.int .u8 ((q.map bv).getD 0 0)) rfl rfl (bkCell (HS.get (.tail _ (.head _))) 0 _ (nums_getD (by simp only [List.length_map, hq]; omega))) (by rfl)) rfl ?_
    refine p_run _ (x_conv (k := .u8) (m := ((q.map bv).getD 0 0)) .i64 ((kN q)) rfl (by rw [Try.underlying5]; rfl) Try.underlying3 rfl (by rw [bv_getD]; exact wr64' (by have := bv_lo (q.getD 0 0); have := bv_hi (q.getD 0 0); omega))) rfl ?_
    refine p_run _ (x_build (Value.int .i64 (kN q) :: ((nums .u8 (zK.map bv)) ++ ([Value.slice none 0 0]))) rfl (by kernel_rfl)) rfl ?_
    refine St.wAlloc HS (cs := (Value.int .i64 0 :: ((nums .u8 (zK.map bv)) ++ ([Value.slice none 0 0])))) (.agg (Value.int .i64 0 :: ((nums .u8 (zK.map bv)) ++ ([Value.slice none 0 0]))).toArray) (by kernel_rfl) rfl ?_
    clear HS
    intro g15 w16 hg17 HS
    refine St.stores (cs' := (Value.int .i64 (kN q) :: ((nums .u8 (zK.map bv)) ++ ([Value.slice none 0 0])))) HS (Value.int .i64 (kN q) :: ((nums .u8 (zK.map bv)) ++ ([Value.slice none 0 0]))) 18 rfl rfl (all1 rfl (allA (nums_one _ _) (all1 rfl rfl))) (by kernel_rfl) (by simp [List.length_map, nums_length, zK_len]) (by simp [List.length_map, nums_length, zK_len]) (lay_all _ _ (by simp [List.length_map, nums_length, zK_len])) ?_
    clear HS
    intro w18 HS
    refine wpList_nil ?_
    refine fr_at (l' := (.agg ((nums .u8 (q.map bv))).toArray :: .pointer (some ⟨g5, 0, none⟩) :: .pointer (some ⟨g8, 0, none⟩) :: .int .i64 0 :: .pointer (some ⟨g15, 0, none⟩) :: U4b8 (.pointer (some ⟨g5, 0, none⟩) :: .int .u8 ((q.map bv).getD 0 0) :: .int .i64 (kN q) :: nv8 (kN q) (nums .u8 (zK.map bv)) none 0 0 :: U32b8 (U16b8 (U8b8 (undef :: [])))))) rfl ?_
    refine hK12 _ _ ?_
    refine wp_seq_k (fun K19 hK20 => ?_)
    refine wp_seq_k (fun K21 hK22 => ?_)
    refine c_region (fun ops24 hops23 => ?_)
    clear hops23
    refine p_run _ (x_field (j := 0) _ _ rfl rfl Try.underlying52 rfl (by rfl) rfl) rfl ?_
    refine p_run _ (x_load (.int .i64 (kN q)) rfl rfl (bkCell (HS.get (.head _)) 0 _ rfl) (by rfl)) rfl ?_
    refine p_run _ (x_cmp (k := .i64) (m := (kN q)) (n := 1) .eql true rfl rfl rfl (cmp_yes hk) rfl) rfl ?_
    refine wpList_nil ?_
    refine hK22 _ _ ?_
    refine c_true rfl ?_
    refine wp_seq_k (fun K25 hK26 => ?_)
    refine c_region (fun ops28 hops27 => ?_)
    clear hops27
    refine p_run _ (x_move (.int .i64 0) rfl rfl) rfl ?_
    refine wpList_nil ?_
    refine fr_at (l' := (.agg ((nums .u8 (q.map bv))).toArray :: .pointer (some ⟨g5, 0, none⟩) :: .pointer (some ⟨g8, 0, none⟩) :: .int .i64 0 :: .pointer (some ⟨g15, 0, none⟩) :: U4b8 (.pointer (some ⟨g5, 0, none⟩) :: .int .u8 ((q.map bv).getD 0 0) :: .int .i64 (kN q) :: nv8 (kN q) (nums .u8 (zK.map bv)) none 0 0 :: .pointer (some ⟨g15, 0, none⟩) :: .int .i64 (kN q) :: .bool true :: .int .i64 0 :: U32b8 (U16b8 (U4b8 (undef :: [])))))) rfl ?_
    refine hK26 _ _ ?_
    refine wp_block ?_
    refine c_loop (ι := Nat) (fun i_ a_ w_ => match i_ with | j => ∃ (u5 : Value) (u17 : Value) (u18 : Value) (u19 : Value) (u20 : Value) (u21 : Value) (u22 : Value) (u23 : Value) (u24 : Value) (u25 : Value) (u26 : Value), a_ = fr (.agg ((nums .u8 (q.map bv))).toArray :: .pointer (some ⟨g5, 0, none⟩) :: .pointer (some ⟨g8, 0, none⟩) :: .int .i64 0 :: .pointer (some ⟨g15, 0, none⟩) :: u5 :: undef :: undef :: undef :: .pointer (some ⟨g5, 0, none⟩) :: .int .u8 ((q.map bv).getD 0 0) :: .int .i64 (kN q) :: nv8 (kN q) (nums .u8 (zK.map bv)) none 0 0 :: .pointer (some ⟨g15, 0, none⟩) :: .int .i64 (kN q) :: .bool true :: .int .i64 (j : Int) :: u17 :: u18 :: u19 :: u20 :: u21 :: u22 :: u23 :: u24 :: u25 :: u26 :: U32b8 (U8b8 (undef :: undef :: undef :: []))) ∧ St w (fun _ => False) w_ ([blk g15 ((nbC q j)) 52, blk g8 (Value.int .i64 0 :: ((nums .u8 (zK.map bv)) ++ ([Value.slice none 0 0]))) 52, blk g5 ((nums .u8 (q.map bv))) 27]) ∧ (j ≤ 16)) (fun i_ => match i_ with | j => 16 - j) 0 ?_ ?_
    · exact ⟨_, _, _, _, _, _, _, _, _, _, _, rfl, (by rw [nbC_zero]; exact (((HS.front 2 rfl).front 2 rfl).front 2 rfl)), (by omega)⟩
    · clear HS
      rintro j a_ w31 ⟨u5, u17, u18, u19, u20, u21, u22, u23, u24, u25, u26, rfl, HS, hI⟩ J29 hJ30
      have hj := hI
      refine wp_seq_k (fun K32 hK33 => ?_)
      refine c_region (fun ops35 hops34 => ?_)
      clear hops34
      refine p_run _ (x_cmp (k := .i64) (m := (j : Int)) (n := 16) .lss (decide ((j : Int) < 16)) rfl rfl rfl rfl rfl) rfl ?_
      refine wpList_nil ?_
      refine hK33 _ _ ?_
      refine wp_seq_k (fun K36 hK37 => ?_)
      refine c_cond (t := decide ((j : Int) < 16)) rfl (fun hc38 => ?_) (fun hc38 => ?_)
      · have hlt : j < 16 := by have := of_decide_eq_true hc38; omega
        refine wp_skip ?_
        refine hK37 _ _ ?_
        refine wp_seq_k (fun K39 hK40 => ?_)
        refine wp_block ?_
        refine wp_seq_k (fun K41 hK42 => ?_)
        refine c_region (fun ops44 hops43 => ?_)
        clear hops43
        refine p_run _ (x_move (.int .i64 (j : Int)) rfl rfl) rfl ?_
        refine p_run _ (x_assign (.int .i64 (j : Int)) rfl rfl) rfl ?_
        refine wpList_nil ?_
        refine hK42 _ _ ?_
        refine c_region (fun ops46 hops45 => ?_)
        clear hops45
        refine p_run _ (x_move (.int .i64 (j : Int)) rfl rfl) rfl ?_
        refine p_run _ (x_move (.int .i64 (j : Int)) rfl rfl) rfl ?_
        refine p_run _ (x_arith (k := .i64) (m := 1) (n := (j : Int)) .add (((1 + j : Nat) : Int)) rfl rfl rfl (show IntKind.i64.wrap (1 + (j : Int)) = ((1 + j : Nat) : Int) from ((wr64' (by omega)).trans (by omega))) rfl) rfl ?_
        refine p_run _ (x_indexArr (sz := 1) (j := (1 + j : Nat)) rfl rfl rfl Try.underlying27 (by kernel_rfl) (by omega) (by first | rfl | (simp; done) | (simp <;> omega) | omega)) rfl ?_
        refine p_run _ (x_load (.int .u8 ((q.map bv).getD (1 + j : Nat) 0)) rfl rfl (bkCell (HS.get (.tail _ (.tail _ (.head _)))) (1 + j : Nat) _ (nums_getD (by simp only [List.length_map, hq]; omega))) (by rfl)) rfl ?_
        refine p_run _ (x_field (j := 1) _ _ rfl rfl Try.underlying52 rfl (by rfl) rfl) rfl ?_
        refine p_run (l' := (.agg ((nums .u8 (q.map bv))).toArray :: .pointer (some ⟨g5, 0, none⟩) :: .pointer (some ⟨g8, 0, none⟩) :: .int .i64 0 :: .pointer (some ⟨g15, 0, none⟩) :: .int .i64 (j : Int) :: undef :: undef :: undef :: .pointer (some ⟨g5, 0, none⟩) :: .int .u8 ((q.map bv).getD 0 0) :: .int .i64 (kN q) :: nv8 (kN q) (nums .u8 (zK.map bv)) none 0 0 :: .pointer (some ⟨g15, 0, none⟩) :: .int .i64 (kN q) :: .bool true :: .int .i64 (j : Int) :: .bool (decide ((j : Int) < 16)) :: .int .i64 (j : Int) :: .int .i64 (j : Int) :: .int .i64 (j : Int) :: .int .i64 ((1 + j : Nat) : Int) :: .pointer (some ⟨g5, (1 + j : Nat), none⟩) :: .int .u8 ((q.map bv).getD (1 + j : Nat) 0) :: .pointer (some ⟨g15, 1, none⟩) :: .pointer (some ⟨g15, 1 + j, none⟩) :: u26 :: U32b8 (U8b8 (undef :: undef :: undef :: [])))) _ (x_indexArr (sz := 1) (j := 1 + j) rfl rfl rfl Try.underlying49 (by kernel_rfl) (by omega) (by first | rfl | (simp; done) | (simp <;> omega) | omega)) rfl ?_
        refine St.store (cs' := (nbC q (j + 1))) HS (.int .u8 ((q.map bv).getD (1 + j : Nat) 0)) rfl rfl rfl (by kernel_rfl) (decide_eq_true (by rw [nbC_len hq hj]; omega)) (nbC_set hq hlt) ?_
        clear HS
        intro w47 HS
        refine wpList_nil ?_
        refine hK40 _ _ ?_
        refine c_region (fun ops49 hops48 => ?_)
        clear hops48
        refine p_run _ (x_arith (k := .i64) (m := (j : Int)) (n := 1) .add (((j + 1 : Nat) : Int)) rfl rfl rfl (show IntKind.i64.wrap ((j : Int) + 1) = ((j + 1 : Nat) : Int) from ((wr64' (by omega)).trans (by omega))) rfl) rfl ?_
        refine p_run _ (x_move (.int .i64 ((j + 1 : Nat) : Int)) rfl rfl) rfl ?_
        refine wpList_nil ?_
        refine fr_at (l' := (.agg ((nums .u8 (q.map bv))).toArray :: .pointer (some ⟨g5, 0, none⟩) :: .pointer (some ⟨g8, 0, none⟩) :: .int .i64 0 :: .pointer (some ⟨g15, 0, none⟩) :: .int .i64 (j : Int) :: undef :: undef :: undef :: .pointer (some ⟨g5, 0, none⟩) :: .int .u8 ((q.map bv).getD 0 0) :: .int .i64 (kN q) :: nv8 (kN q) (nums .u8 (zK.map bv)) none 0 0 :: .pointer (some ⟨g15, 0, none⟩) :: .int .i64 (kN q) :: .bool true :: .int .i64 ((j + 1 : Nat) : Int) :: .bool (decide ((j : Int) < 16)) :: .int .i64 (j : Int) :: .int .i64 (j : Int) :: .int .i64 (j : Int) :: .int .i64 ((1 + j : Nat) : Int) :: .pointer (some ⟨g5, (1 + j : Nat), none⟩) :: .int .u8 ((q.map bv).getD (1 + j : Nat) 0) :: .pointer (some ⟨g15, 1, none⟩) :: .pointer (some ⟨g15, 1 + j, none⟩) :: .int .i64 ((j + 1 : Nat) : Int) :: U32b8 (U8b8 (undef :: undef :: undef :: [])))) rfl ?_
        refine hJ30 (j + 1) _ _ ?_ ?_
        · show 16 - (j + 1) < 16 - j; omega
        · exact ⟨_, _, _, _, _, _, _, _, _, _, _, rfl, (((HS.front 2 rfl).front 2 rfl).front 2 rfl), (by omega)⟩
      · have hlt : j = 16 := by have := of_decide_eq_false hc38; omega
        subst hlt
        rw [nbC_end hq] at HS
        replace HS := HS.nil kEn rfl 62
        refine wp_exit ?_
        refine hK20 _ _ ?_
        refine wp_seq_k (fun K50 hK51 => ?_)
        refine c_region (fun ops53 hops52 => ?_)
        clear hops52
        refine p_run _ (x_loads (Value.int .i64 (kN q) :: ((nums .u8 ((bl1 q).map bv)) ++ ([Value.slice none 0 0]))) 18 rfl rfl (bkCells (HS.get (.tail _ (.head _))) 0 _ (whole _)) (by rfl) (by kernel_rfl) (by simp [List.length_map, bl1_len hq, nums_length])) rfl ?_
        refine w_call [nv8 (kN q) (nums .u8 ((bl1 q).map bv)) none 0 0] Try.func40 (by kernel_rfl) (by rfl) rfl ?_
        refine (rpage8_any _ (kN q) (bl1 q) (bl1_len hq) none 0 [] (row_C (HS.get (.head _))).2.2 (by simp)).mono ?_
        rintro e w54 ⟨rfl, hb_⟩
        replace HS := HS.here hb_
        clear hb_
        refine ⟨_, rfl, ?_⟩
        refine p_run _ (x_move (.tuple [.agg ((nums .u8 ((lfP (kN q) (bl1 q) []).map bv))).toArray, .int .i64 (lfE (kN q) (bl1 q) [])].toArray) rfl rfl) rfl ?_
        refine p_run _ (x_extract (vs := [.agg ((nums .u8 ((lfP (kN q) (bl1 q) []).map bv))).toArray, .int .i64 (lfE (kN q) (bl1 q) [])]) 0 (.agg ((nums .u8 ((lfP (kN q) (bl1 q) []).map bv))).toArray) rfl rfl rfl) rfl ?_
        refine p_run _ (x_extract (vs := [.agg ((nums .u8 ((lfP (kN q) (bl1 q) []).map bv))).toArray, .int .i64 (lfE (kN q) (bl1 q) [])]) 1 (.int .i64 (lfE (kN q) (bl1 q) [])) rfl rfl rfl) rfl ?_
        refine St.wAlloc HS (cs := ((nums .u8 zpg))) (.agg ((nums .u8 zpg)).toArray) (by kernel_rfl) rfl ?_
        clear HS
        intro g55 w56 hg57 HS
        refine St.stores (cs' := ((nums .u8 ((lfP (kN q) (bl1 q) []).map bv)))) HS ((nums .u8 ((lfP (kN q) (bl1 q) []).map bv))) 256 rfl rfl (nums_one _ _) (by kernel_rfl) (by simp [List.length_map, lfP_len (kN q) (bl1_len hq) [], nums_length]) (by simp [List.length_map, lfP_len (kN q) (bl1_len hq) [], nums_length, zlen]) (lay_all _ _ (by simp [List.length_map, lfP_len (kN q) (bl1_len hq) [], nums_length, zlen])) ?_
        clear HS
        intro w58 HS
        refine p_run _ (x_assign (.int .i64 (lfE (kN q) (bl1 q) [])) rfl rfl) rfl ?_
        refine wpList_nil ?_
        refine hK51 _ _ ?_
        refine wp_seq_k (fun K59 hK60 => ?_)
        refine wp_seq_k (fun K61 hK62 => ?_)
        rcases op_cases (kN q) (bl1 q) [] q with hA | ⟨hA, hB⟩ | ⟨hA, hB⟩
        · skip
          have hok : okN q = false := by unfold okN; rw [e1, e2, hA]; rfl
          refine c_region (fun ops64 hops63 => ?_)
          refine p_run _ (x_move (.int .i64 (lfE (kN q) (bl1 q) [])) rfl rfl) rfl ?_
          refine p_run _ (x_cmp (k := .i64) (m := (lfE (kN q) (bl1 q) [])) (n := 0) .neq true rfl rfl rfl (by rw [(lf_no hA).2]; decide) rfl) rfl ?_
          refine p_run (l' := (.agg ((nums .u8 (q.map bv))).toArray :: .pointer (some ⟨g5, 0, none⟩) :: .pointer (some ⟨g8, 0, none⟩) :: .int .i64 0 :: .pointer (some ⟨g15, 0, none⟩) :: u5 :: undef :: .pointer (some ⟨g55, 0, none⟩) :: .int .i64 (lfE (kN q) (bl1 q) []) :: .pointer (some ⟨g5, 0, none⟩) :: .int .u8 ((q.map bv).getD 0 0) :: .int .i64 (kN q) :: nv8 (kN q) (nums .u8 (zK.map bv)) none 0 0 :: .pointer (some ⟨g15, 0, none⟩) :: .int .i64 (kN q) :: .bool true :: .int .i64 (16 : Int) :: .bool (decide ((16 : Int) < 16)) :: u18 :: u19 :: u20 :: u21 :: u22 :: u23 :: u24 :: u25 :: u26 :: U16b8 (U8b8 (U4b8 (undef :: .tuple [.agg ((nums .u8 ((lfP (kN q) (bl1 q) []).map bv))).toArray, .int .i64 (lfE (kN q) (bl1 q) [])].toArray :: nv8 (kN q) (nums .u8 ((bl1 q).map bv)) none 0 0 :: .tuple [.agg ((nums .u8 ((lfP (kN q) (bl1 q) []).map bv))).toArray, .int .i64 (lfE (kN q) (bl1 q) [])].toArray :: .agg ((nums .u8 ((lfP (kN q) (bl1 q) []).map bv))).toArray :: .int .i64 (lfE (kN q) (bl1 q) []) :: .int .i64 (lfE (kN q) (bl1 q) []) :: .bool true :: .bool true :: U4b8 (undef :: undef :: [])))))) _ (x_move (.bool true) rfl rfl) rfl ?_
          refine p_off (by rw [hops63]; rfl) rfl ?_
          refine p_off (by rw [hops63]; rfl) rfl ?_
          refine p_off (by rw [hops63]; rfl) rfl ?_
          refine p_run _ (x_pick true (.bool true) (undef) (.bool true) rfl rfl rfl rfl rfl) rfl ?_
          clear hops63
          refine wpList_nil ?_
          refine hK62 _ _ ?_
          refine c_true rfl ?_
          refine wp_seq_k (fun K65 hK66 => ?_)
          refine c_region (fun ops68 hops67 => ?_)
          clear hops67
          refine p_run _ (x_build (Value.int .i64 0 :: ((nums .u8 (zK.map bv)) ++ ([Value.slice none 0 0]))) rfl (by kernel_rfl)) rfl ?_
          refine St.stores (cs' := (Value.int .i64 0 :: ((nums .u8 (zK.map bv)) ++ ([Value.slice none 0 0])))) (HS.front 3 rfl) (Value.int .i64 0 :: ((nums .u8 (zK.map bv)) ++ ([Value.slice none 0 0]))) 18 rfl rfl (all1 rfl (allA (nums_one _ _) (all1 rfl rfl))) (by kernel_rfl) (by simp [List.length_map, nums_length, zK_len]) (by simp [List.length_map, nums_length, zK_len]) (lay_all _ _ (by simp [List.length_map, nums_length, zK_len])) ?_
          clear HS
          intro w69 HS
          refine p_run _ (x_assign (.int .i64 81) rfl rfl) rfl ?_
          refine wpList_nil ?_
          refine hK66 _ _ ?_
          refine wp_ret ?_
          try simp only [Exit.inBlock, Exit.then]
          refine c_ret (.tuple [nv8 0 (nums .u8 (zK.map bv)) none 0 0, .int .i64 81].toArray) (r_ct rfl rfl (run_loadVar_aggn (by rfl) (Value.int .i64 0 :: ((nums .u8 (zK.map bv)) ++ ([Value.slice none 0 0]))) 18 (by kernel_rfl) (by simp [List.length_map, nums_length, zK_len]) (bkCells (HS.get (.head _)) 0 _ (whole _))) rfl) ?_
          replace HS := HS.nil kEn rfl 62
          obtain ⟨e3, e4, e5, e6⟩ := op_no hok
          rw [e3, e4, e5, e6]
          exact ⟨none, 0, rfl, (((((HS.front 1 rfl).drop.front 1 rfl).drop.front 1 rfl).drop.front 1 rfl).drop.front 1 rfl).drop⟩
        · skip
          have hok : okN q = false := by unfold okN; rw [e1, e2, hA, decide_eq_false hB]; rfl
          refine c_region (fun ops71 hops70 => ?_)
          refine p_run _ (x_move (.int .i64 (lfE (kN q) (bl1 q) [])) rfl rfl) rfl ?_
          refine p_run _ (x_cmp (k := .i64) (m := (lfE (kN q) (bl1 q) [])) (n := 0) .neq false rfl rfl rfl (by rw [(lf_yes hA).2]; decide) rfl) rfl ?_
          refine p_run _ (x_move (.bool false) rfl rfl) rfl ?_
          refine p_on rfl (by rw [hops70]; rfl) ?_
          refine p_run (l' := (.agg ((nums .u8 (q.map bv))).toArray :: .pointer (some ⟨g5, 0, none⟩) :: .pointer (some ⟨g8, 0, none⟩) :: .int .i64 0 :: .pointer (some ⟨g15, 0, none⟩) :: u5 :: undef :: .pointer (some ⟨g55, 0, none⟩) :: .int .i64 (lfE (kN q) (bl1 q) []) :: .pointer (some ⟨g5, 0, none⟩) :: .int .u8 ((q.map bv).getD 0 0) :: .int .i64 (kN q) :: nv8 (kN q) (nums .u8 (zK.map bv)) none 0 0 :: .pointer (some ⟨g15, 0, none⟩) :: .int .i64 (kN q) :: .bool true :: .int .i64 (16 : Int) :: .bool (decide ((16 : Int) < 16)) :: u18 :: u19 :: u20 :: u21 :: u22 :: u23 :: u24 :: u25 :: u26 :: U16b8 (U8b8 (U4b8 (undef :: .tuple [.agg ((nums .u8 ((lfP (kN q) (bl1 q) []).map bv))).toArray, .int .i64 (lfE (kN q) (bl1 q) [])].toArray :: nv8 (kN q) (nums .u8 ((bl1 q).map bv)) none 0 0 :: .tuple [.agg ((nums .u8 ((lfP (kN q) (bl1 q) []).map bv))).toArray, .int .i64 (lfE (kN q) (bl1 q) [])].toArray :: .agg ((nums .u8 ((lfP (kN q) (bl1 q) []).map bv))).toArray :: .int .i64 (lfE (kN q) (bl1 q) []) :: .int .i64 (lfE (kN q) (bl1 q) []) :: .bool false :: .bool false :: .agg ((nums .u8 ((lfP (kN q) (bl1 q) []).map bv))).toArray :: U4b8 (undef :: [])))))) _ (x_loads ((nums .u8 ((lfP (kN q) (bl1 q) []).map bv))) 256 rfl rfl (bkCells (HS.get (.head _)) 0 _ (whole _)) (by rfl) (by kernel_rfl) (by simp [List.length_map, lfP_len (kN q) (bl1_len hq) [], nums_length])) rfl ?_
          refine p_on rfl (by rw [hops70]; rfl) ?_
          refine p_run _ (x_loads ((nums .u8 (q.map bv))) 256 rfl rfl (bkCells (HS.get (.tail _ (.tail _ (.tail _ (.tail _ (.head _)))))) 0 _ (whole _)) (by rfl) (by kernel_rfl) (by simp [List.length_map, hq, nums_length])) rfl ?_
          refine p_on rfl (by rw [hops70]; rfl) ?_
          refine p_run _ (x_eq .neq (.agg ((nums .u8 ((lfP (kN q) (bl1 q) []).map bv))).toArray) (.agg ((nums .u8 (q.map bv))).toArray) (decide (((lfP (kN q) (bl1 q) []).map bv) = (q.map bv))) true rfl rfl rfl (equal_nums Try.underlying27 Try.underlying5 (by kernel_rfl) (by kernel_rfl) _ _ (by simp [List.length_map, lfP_len (kN q) (bl1_len hq) []]) (by simp [List.length_map, hq])) (by rw [(lf_yes hA).1, decide_eq_false (fun e => hB (map_bv_inj.1 e))]; rfl) rfl (guard_agg (by kernel_rfl)) (guard_agg (by kernel_rfl))) rfl ?_
          refine p_run _ (x_pick false (.bool true) (.bool true) (.bool true) rfl rfl rfl rfl rfl) rfl ?_
          clear hops70
          refine wpList_nil ?_
          refine hK62 _ _ ?_
          refine c_true rfl ?_
          refine wp_seq_k (fun K72 hK73 => ?_)
          refine c_region (fun ops75 hops74 => ?_)
          clear hops74
          refine p_run _ (x_build (Value.int .i64 0 :: ((nums .u8 (zK.map bv)) ++ ([Value.slice none 0 0]))) rfl (by kernel_rfl)) rfl ?_
          refine St.stores (cs' := (Value.int .i64 0 :: ((nums .u8 (zK.map bv)) ++ ([Value.slice none 0 0])))) (HS.front 3 rfl) (Value.int .i64 0 :: ((nums .u8 (zK.map bv)) ++ ([Value.slice none 0 0]))) 18 rfl rfl (all1 rfl (allA (nums_one _ _) (all1 rfl rfl))) (by kernel_rfl) (by simp [List.length_map, nums_length, zK_len]) (by simp [List.length_map, nums_length, zK_len]) (lay_all _ _ (by simp [List.length_map, nums_length, zK_len])) ?_
          clear HS
          intro w76 HS
          refine p_run _ (x_assign (.int .i64 81) rfl rfl) rfl ?_
          refine wpList_nil ?_
          refine hK73 _ _ ?_
          refine wp_ret ?_
          try simp only [Exit.inBlock, Exit.then]
          refine c_ret (.tuple [nv8 0 (nums .u8 (zK.map bv)) none 0 0, .int .i64 81].toArray) (r_ct rfl rfl (run_loadVar_aggn (by rfl) (Value.int .i64 0 :: ((nums .u8 (zK.map bv)) ++ ([Value.slice none 0 0]))) 18 (by kernel_rfl) (by simp [List.length_map, nums_length, zK_len]) (bkCells (HS.get (.head _)) 0 _ (whole _))) rfl) ?_
          replace HS := HS.nil kEn rfl 62
          obtain ⟨e3, e4, e5, e6⟩ := op_no hok
          rw [e3, e4, e5, e6]
          exact ⟨none, 0, rfl, (((((HS.front 1 rfl).drop.front 1 rfl).drop.front 1 rfl).drop.front 1 rfl).drop.front 1 rfl).drop⟩
        · skip
          have hok : okN q = true := by unfold okN; rw [e1, e2, hA, decide_eq_true hB]; rfl
          refine c_region (fun ops78 hops77 => ?_)
          refine p_run _ (x_move (.int .i64 (lfE (kN q) (bl1 q) [])) rfl rfl) rfl ?_
          refine p_run _ (x_cmp (k := .i64) (m := (lfE (kN q) (bl1 q) [])) (n := 0) .neq false rfl rfl rfl (by rw [(lf_yes hA).2]; decide) rfl) rfl ?_
          refine p_run _ (x_move (.bool false) rfl rfl) rfl ?_
          refine p_on rfl (by rw [hops77]; rfl) ?_
          refine p_run _ (x_loads ((nums .u8 ((lfP (kN q) (bl1 q) []).map bv))) 256 rfl rfl (bkCells (HS.get (.head _)) 0 _ (whole _)) (by rfl) (by kernel_rfl) (by simp [List.length_map, lfP_len (kN q) (bl1_len hq) [], nums_length])) rfl ?_
          refine p_on rfl (by rw [hops77]; rfl) ?_
          refine p_run (l' := (.agg ((nums .u8 (q.map bv))).toArray :: .pointer (some ⟨g5, 0, none⟩) :: .pointer (some ⟨g8, 0, none⟩) :: .int .i64 0 :: .pointer (some ⟨g15, 0, none⟩) :: u5 :: undef :: .pointer (some ⟨g55, 0, none⟩) :: .int .i64 (lfE (kN q) (bl1 q) []) :: .pointer (some ⟨g5, 0, none⟩) :: .int .u8 ((q.map bv).getD 0 0) :: .int .i64 (kN q) :: nv8 (kN q) (nums .u8 (zK.map bv)) none 0 0 :: .pointer (some ⟨g15, 0, none⟩) :: .int .i64 (kN q) :: .bool true :: .int .i64 (16 : Int) :: .bool (decide ((16 : Int) < 16)) :: u18 :: u19 :: u20 :: u21 :: u22 :: u23 :: u24 :: u25 :: u26 :: U16b8 (U8b8 (U4b8 (undef :: .tuple [.agg ((nums .u8 ((lfP (kN q) (bl1 q) []).map bv))).toArray, .int .i64 (lfE (kN q) (bl1 q) [])].toArray :: nv8 (kN q) (nums .u8 ((bl1 q).map bv)) none 0 0 :: .tuple [.agg ((nums .u8 ((lfP (kN q) (bl1 q) []).map bv))).toArray, .int .i64 (lfE (kN q) (bl1 q) [])].toArray :: .agg ((nums .u8 ((lfP (kN q) (bl1 q) []).map bv))).toArray :: .int .i64 (lfE (kN q) (bl1 q) []) :: .int .i64 (lfE (kN q) (bl1 q) []) :: .bool false :: .bool false :: .agg ((nums .u8 ((lfP (kN q) (bl1 q) []).map bv))).toArray :: .agg ((nums .u8 (q.map bv))).toArray :: U4b8 ([])))))) _ (x_loads ((nums .u8 (q.map bv))) 256 rfl rfl (bkCells (HS.get (.tail _ (.tail _ (.tail _ (.tail _ (.head _)))))) 0 _ (whole _)) (by rfl) (by kernel_rfl) (by simp [List.length_map, hq, nums_length])) rfl ?_
          refine p_on rfl (by rw [hops77]; rfl) ?_
          refine p_run _ (x_eq .neq (.agg ((nums .u8 ((lfP (kN q) (bl1 q) []).map bv))).toArray) (.agg ((nums .u8 (q.map bv))).toArray) (decide (((lfP (kN q) (bl1 q) []).map bv) = (q.map bv))) false rfl rfl rfl (equal_nums Try.underlying27 Try.underlying5 (by kernel_rfl) (by kernel_rfl) _ _ (by simp [List.length_map, lfP_len (kN q) (bl1_len hq) []]) (by simp [List.length_map, hq])) (by rw [(lf_yes hA).1, eq_yes hB]; rfl) rfl (guard_agg (by kernel_rfl)) (guard_agg (by kernel_rfl))) rfl ?_
          refine p_run _ (x_pick false (.bool true) (.bool false) (.bool false) rfl rfl rfl rfl rfl) rfl ?_
          clear hops77
          refine wpList_nil ?_
          refine hK62 _ _ ?_
          refine c_false rfl ?_
          refine wp_skip ?_
          refine hK60 _ _ ?_
          refine wp_seq_k (fun K79 hK80 => ?_)
          refine c_region (fun ops82 hops81 => ?_)
          clear hops81
          refine p_run _ (x_loads (Value.int .i64 (kN q) :: ((nums .u8 ((bl1 q).map bv)) ++ ([Value.slice none 0 0]))) 18 rfl rfl (bkCells (HS.get (.tail _ (.tail _ (.head _)))) 0 _ (whole _)) (by rfl) (by kernel_rfl) (by simp [List.length_map, bl1_len hq, nums_length])) rfl ?_
          refine St.stores (cs' := (Value.int .i64 (kN q) :: ((nums .u8 ((bl1 q).map bv)) ++ ([Value.slice none 0 0])))) (HS.front 3 rfl) (Value.int .i64 (kN q) :: ((nums .u8 ((bl1 q).map bv)) ++ ([Value.slice none 0 0]))) 18 rfl rfl (all1 rfl (allA (nums_one _ _) (all1 rfl rfl))) (by kernel_rfl) (by simp [List.length_map, bl1_len hq, nums_length]) (by simp [List.length_map, bl1_len hq, nums_length, zK_len]) (lay_all _ _ (by simp [List.length_map, bl1_len hq, nums_length, zK_len])) ?_
          clear HS
          intro w83 HS
          refine p_run _ (x_assign (.int .i64 0) rfl rfl) rfl ?_
          refine wpList_nil ?_
          refine hK80 _ _ ?_
          refine wp_ret ?_
          try simp only [Exit.inBlock, Exit.then]
          refine c_ret (.tuple [nv8 (kN q) (nums .u8 ((bl1 q).map bv)) none 0 0, .int .i64 0].toArray) (r_ct rfl rfl (run_loadVar_aggn (by rfl) (Value.int .i64 (kN q) :: ((nums .u8 ((bl1 q).map bv)) ++ ([Value.slice none 0 0]))) 18 (by kernel_rfl) (by simp [List.length_map, bl1_len hq, nums_length]) (bkCells (HS.get (.head _)) 0 _ (whole _))) rfl) ?_
          obtain ⟨e3, e4, e5, e6⟩ := op_yes hok
          rw [e3, e4, e5, e6, e1, e2]
          exact ⟨_, _, rfl, ((HS.drop.drop.front 1 rfl).drop.front 1 rfl).drop⟩
  · skip
    have e1 : bN q = zK := if_neg hk
    have e2 : eN q = eL q (mN q) := if_neg hk
    refine c_enter Try.func26 rfl 70 rfl (.agg ((nums .u8 (q.map bv))).toArray :: U64b8 (U4b8 (undef :: []))) rfl ?_
    refine wp_seq_k (fun K1 hK2 => ?_)
    refine c_region (fun ops4 hops3 => ?_)
    clear hops3
    refine St.wBox HS (cs := ((nums .u8 (q.map bv)))) (.agg ((nums .u8 (q.map bv))).toArray) rfl rfl ?_
    clear HS
    intro g5 w6 hg7 HS
    refine St.wAlloc HS (cs := (Value.int .i64 0 :: ((nums .u8 (zK.map bv)) ++ ([Value.slice none 0 0])))) (.agg (Value.int .i64 0 :: ((nums .u8 (zK.map bv)) ++ ([Value.slice none 0 0]))).toArray) (by kernel_rfl) rfl ?_
    clear HS
    intro g8 w9 hg10 HS
    refine p_run _ (x_assign (.int .i64 0) rfl rfl) rfl ?_
    refine wpList_nil ?_
    refine hK2 _ _ ?_
    refine wp_seq_k (fun K11 hK12 => ?_)
    refine c_region (fun ops14 hops13 => ?_)
    clear hops13
    refine p_run _ (x_indexArr (sz := 1) (j := 0) rfl rfl rfl Try.underlying27 (by kernel_rfl) (by omega) rfl) rfl ?_
    refine p_run _ (x_load (.int .u8 ((q.map bv).getD 0 0)) rfl rfl (bkCell (HS.get (.tail _ (.head _))) 0 _ (nums_getD (by simp only [List.length_map, hq]; omega))) (by rfl)) rfl ?_
    refine p_run _ (x_conv (k := .u8) (m := ((q.map bv).getD 0 0)) .i64 ((kN q)) rfl (by rw [Try.underlying5]; rfl) Try.underlying3 rfl (by rw [bv_getD]; exact wr64' (by have := bv_lo (q.getD 0 0); have := bv_hi (q.getD 0 0); omega))) rfl ?_
    refine p_run _ (x_build (Value.int .i64 (kN q) :: ((nums .u8 (zK.map bv)) ++ ([Value.slice none 0 0]))) rfl (by kernel_rfl)) rfl ?_
    refine St.wAlloc HS (cs := (Value.int .i64 0 :: ((nums .u8 (zK.map bv)) ++ ([Value.slice none 0 0])))) (.agg (Value.int .i64 0 :: ((nums .u8 (zK.map bv)) ++ ([Value.slice none 0 0]))).toArray) (by kernel_rfl) rfl ?_
    clear HS
    intro g15 w16 hg17 HS
    refine St.stores (cs' := (Value.int .i64 (kN q) :: ((nums .u8 (zK.map bv)) ++ ([Value.slice none 0 0])))) HS (Value.int .i64 (kN q) :: ((nums .u8 (zK.map bv)) ++ ([Value.slice none 0 0]))) 18 rfl rfl (all1 rfl (allA (nums_one _ _) (all1 rfl rfl))) (by kernel_rfl) (by simp [List.length_map, nums_length, zK_len]) (by simp [List.length_map, nums_length, zK_len]) (lay_all _ _ (by simp [List.length_map, nums_length, zK_len])) ?_
    clear HS
    intro w18 HS
    refine wpList_nil ?_
    refine fr_at (l' := (.agg ((nums .u8 (q.map bv))).toArray :: .pointer (some ⟨g5, 0, none⟩) :: .pointer (some ⟨g8, 0, none⟩) :: .int .i64 0 :: .pointer (some ⟨g15, 0, none⟩) :: U4b8 (.pointer (some ⟨g5, 0, none⟩) :: .int .u8 ((q.map bv).getD 0 0) :: .int .i64 (kN q) :: nv8 (kN q) (nums .u8 (zK.map bv)) none 0 0 :: U32b8 (U16b8 (U8b8 (undef :: [])))))) rfl ?_
    refine hK12 _ _ ?_
    refine wp_seq_k (fun K19 hK20 => ?_)
    refine wp_seq_k (fun K21 hK22 => ?_)
    refine c_region (fun ops24 hops23 => ?_)
    clear hops23
    refine p_run _ (x_field (j := 0) _ _ rfl rfl Try.underlying52 rfl (by rfl) rfl) rfl ?_
    refine p_run _ (x_load (.int .i64 (kN q)) rfl rfl (bkCell (HS.get (.head _)) 0 _ rfl) (by rfl)) rfl ?_
    refine p_run _ (x_cmp (k := .i64) (m := (kN q)) (n := 1) .eql false rfl rfl rfl (cmp_not hk) rfl) rfl ?_
    refine wpList_nil ?_
    refine hK22 _ _ ?_
    refine c_false rfl ?_
    refine wp_seq_k (fun K25 hK26 => ?_)
    refine c_region (fun ops28 hops27 => ?_)
    clear hops27
    refine p_run _ (x_assign (.int .i64 0) rfl rfl) rfl ?_
    refine wpList_nil ?_
    refine fr_at (l' := (.agg ((nums .u8 (q.map bv))).toArray :: .pointer (some ⟨g5, 0, none⟩) :: .pointer (some ⟨g8, 0, none⟩) :: .int .i64 0 :: .pointer (some ⟨g15, 0, none⟩) :: undef :: .int .i64 0 :: undef :: undef :: .pointer (some ⟨g5, 0, none⟩) :: .int .u8 ((q.map bv).getD 0 0) :: .int .i64 (kN q) :: nv8 (kN q) (nums .u8 (zK.map bv)) none 0 0 :: .pointer (some ⟨g15, 0, none⟩) :: .int .i64 (kN q) :: .bool false :: U32b8 (U16b8 (U4b8 (undef :: undef :: []))))) rfl ?_
    refine hK26 _ _ ?_
    refine wp_block ?_
    replace HS := HS.nil kEn rfl 62
    refine c_loop (ι := Nat × Value) (fun i_ a_ w_ => match i_ with | (j, ve) => ∃ (uq29 : Value × Value × Value × Value × Value × Value) (uq30 : Value × Value × Value × Value × Value × Value) (uq31 : Value × Value × Value × Value × Value × Value) (uq32 : Value × Value × Value × Value × Value × Value) (uq33 : Value × Value × Value × Value × Value), a_ = fr (.agg ((nums .u8 (q.map bv))).toArray :: .pointer (some ⟨g5, 0, none⟩) :: .pointer (some ⟨g8, 0, none⟩) :: .int .i64 0 :: .pointer (some ⟨g15, 0, none⟩) :: undef :: .int .i64 (j : Int) :: undef :: undef :: .pointer (some ⟨g5, 0, none⟩) :: .int .u8 ((q.map bv).getD 0 0) :: .int .i64 (kN q) :: nv8 (kN q) (nums .u8 (zK.map bv)) none 0 0 :: .pointer (some ⟨g15, 0, none⟩) :: .int .i64 (kN q) :: .bool false :: U8b8 (undef :: undef :: undef :: uq29.1 :: uq29.2.1 :: uq29.2.2.1 :: uq29.2.2.2.1 :: uq29.2.2.2.2.1 :: uq29.2.2.2.2.2 :: uq30.1 :: uq30.2.1 :: uq30.2.2.1 :: uq30.2.2.2.1 :: uq30.2.2.2.2.1 :: uq30.2.2.2.2.2 :: uq31.1 :: uq31.2.1 :: uq31.2.2.1 :: uq31.2.2.2.1 :: uq31.2.2.2.2.1 :: uq31.2.2.2.2.2 :: uq32.1 :: uq32.2.1 :: uq32.2.2.1 :: uq32.2.2.2.1 :: uq32.2.2.2.2.1 :: uq32.2.2.2.2.2 :: uq33.1 :: uq33.2.1 :: uq33.2.2.1 :: uq33.2.2.2.1 :: uq33.2.2.2.2 :: U8b8 (U4b8 (undef :: undef :: [])))) ∧ St w (fun _ => False) w_ ([row kEn rfl 62 ve (eL q j), blk g15 (Value.int .i64 (kN q) :: ((nums .u8 (zK.map bv)) ++ ([ve]))) 52, blk g8 (Value.int .i64 0 :: ((nums .u8 (zK.map bv)) ++ ([Value.slice none 0 0]))) 52, blk g5 ((nums .u8 (q.map bv))) 27]) ∧ (j ≤ mN q)) (fun i_ => match i_ with | (j, ve) => mN q - j) (0, .slice none 0 0) ?_ ?_
    · exact ⟨(undef, undef, undef, undef, undef, undef), (undef, undef, undef, undef, undef, undef), (undef, undef, undef, undef, undef, undef), (undef, undef, undef, undef, undef, undef), (undef, undef, undef, undef, undef), rfl, ((((HS.front 3 rfl).front 3 rfl).front 3 rfl).front 3 rfl), (by omega)⟩
    · clear HS
      rintro ⟨j, ve⟩ a_ w36 ⟨uq29, uq30, uq31, uq32, uq33, rfl, HS, hI⟩ J34 hJ35
      have hj := hI
      refine wp_seq_k (fun K37 hK38 => ?_)
      refine wp_seq_k (fun K39 hK40 => ?_)
      rcases rn_cases q hj with ⟨h1, he⟩ | ⟨h1, h2, he⟩ | ⟨h1, h2, hlt⟩
      · skip
        subst he
        refine c_region (fun ops42 hops41 => ?_)
        refine p_run _ (x_move (.int .i64 ((mN q) : Int)) rfl rfl) rfl ?_
        refine p_run _ (x_indexArr (sz := 1) (j := 1) rfl rfl rfl Try.underlying27 (by kernel_rfl) (by omega) rfl) rfl ?_
        refine p_run _ (x_load (.int .u8 ((q.map bv).getD 1 0)) rfl rfl (bkCell (HS.get (.tail _ (.tail _ (.tail _ (.head _))))) 1 _ (nums_getD (by simp only [List.length_map, hq]; omega))) (by rfl)) rfl ?_
        refine p_run _ (x_conv (k := .u8) (m := ((q.map bv).getD 1 0)) .i64 ((bv (q.getD 1 0))) rfl (by rw [Try.underlying5]; rfl) Try.underlying3 rfl (by rw [bv_getD]; exact wr64' (by have := bv_lo (q.getD 1 0); have := bv_hi (q.getD 1 0); omega))) rfl ?_
        refine p_run _ (x_cmp (k := .i64) (m := ((mN q) : Int)) (n := (bv (q.getD 1 0))) .lss false rfl rfl rfl (show decide _ = false from decide_eq_false h1) rfl) rfl ?_
        refine p_run _ (x_move (.bool false) rfl rfl) rfl ?_
        refine p_off (by rw [hops41]; rfl) rfl ?_
        refine p_off (by rw [hops41]; rfl) rfl ?_
        refine p_run _ (x_pick false (undef) (.bool false) (.bool false) rfl rfl rfl rfl rfl) rfl ?_
        clear hops41
        refine wpList_nil ?_
        refine fr_at (l' := (.agg ((nums .u8 (q.map bv))).toArray :: .pointer (some ⟨g5, 0, none⟩) :: .pointer (some ⟨g8, 0, none⟩) :: .int .i64 0 :: .pointer (some ⟨g15, 0, none⟩) :: undef :: .int .i64 ((mN q) : Int) :: undef :: undef :: .pointer (some ⟨g5, 0, none⟩) :: .int .u8 ((q.map bv).getD 0 0) :: .int .i64 (kN q) :: nv8 (kN q) (nums .u8 (zK.map bv)) none 0 0 :: .pointer (some ⟨g15, 0, none⟩) :: .int .i64 (kN q) :: .bool false :: U8b8 (undef :: undef :: undef :: .int .i64 ((mN q) : Int) :: .pointer (some ⟨g5, 1, none⟩) :: .int .u8 ((q.map bv).getD 1 0) :: .int .i64 (bv (q.getD 1 0)) :: .bool false :: .bool false :: undef :: undef :: .bool false :: uq30.2.2.2.1 :: uq30.2.2.2.2.1 :: uq30.2.2.2.2.2 :: uq31.1 :: uq31.2.1 :: uq31.2.2.1 :: uq31.2.2.2.1 :: uq31.2.2.2.2.1 :: uq31.2.2.2.2.2 :: uq32.1 :: uq32.2.1 :: uq32.2.2.1 :: uq32.2.2.2.1 :: uq32.2.2.2.2.1 :: uq32.2.2.2.2.2 :: uq33.1 :: uq33.2.1 :: uq33.2.2.1 :: uq33.2.2.2.1 :: uq33.2.2.2.2 :: U8b8 (U4b8 (undef :: undef :: []))))) rfl ?_
        refine hK40 _ _ ?_
        refine c_false rfl ?_
        refine wp_exit ?_
        refine hK20 _ _ ?_
        refine wp_seq_k (fun K43 hK44 => ?_)
        skip
        · skip
          obtain ⟨A45, c46, hv47, hcp48, -⟩ := row_reads (HS.get (.head _))
          subst hv47
          refine c_region (fun ops50 hops49 => ?_)
          clear hops49
          refine p_run _ (x_loads (Value.int .i64 (kN q) :: ((nums .u8 (zK.map bv)) ++ ([Value.slice A45 ((eL q (mN q)).length) c46]))) 18 rfl rfl (bkCells (HS.get (.tail _ (.head _))) 0 _ (whole _)) (by rfl) (by kernel_rfl) (by simp [List.length_map, nums_length, zK_len])) rfl ?_
          refine w_call [nv8 (kN q) (nums .u8 (zK.map bv)) A45 ((eL q (mN q)).length) c46] Try.func40 (by kernel_rfl) (by rfl) rfl ?_
          refine (rpage8_any _ (kN q) zK zK_len A45 c46 (eL q (mN q)) (row_C (HS.get (.head _))).2.2 (by have : mN q ≤ 6 := Nat.min_le_right _ _; rw [eL_length]; omega)).mono ?_
          rintro e w51 ⟨rfl, hb_⟩
          replace HS := HS.here hb_
          clear hb_
          refine ⟨_, rfl, ?_⟩
          refine p_run _ (x_move (.tuple [.agg ((nums .u8 ((lfP (kN q) zK (eL q (mN q))).map bv))).toArray, .int .i64 (lfE (kN q) zK (eL q (mN q)))].toArray) rfl rfl) rfl ?_
          refine p_run _ (x_extract (vs := [.agg ((nums .u8 ((lfP (kN q) zK (eL q (mN q))).map bv))).toArray, .int .i64 (lfE (kN q) zK (eL q (mN q)))]) 0 (.agg ((nums .u8 ((lfP (kN q) zK (eL q (mN q))).map bv))).toArray) rfl rfl rfl) rfl ?_
          refine p_run _ (x_extract (vs := [.agg ((nums .u8 ((lfP (kN q) zK (eL q (mN q))).map bv))).toArray, .int .i64 (lfE (kN q) zK (eL q (mN q)))]) 1 (.int .i64 (lfE (kN q) zK (eL q (mN q)))) rfl rfl rfl) rfl ?_
          refine St.wAlloc HS (cs := ((nums .u8 zpg))) (.agg ((nums .u8 zpg)).toArray) (by kernel_rfl) rfl ?_
          clear HS
          intro g52 w53 hg54 HS
          refine St.stores (cs' := ((nums .u8 ((lfP (kN q) zK (eL q (mN q))).map bv)))) HS ((nums .u8 ((lfP (kN q) zK (eL q (mN q))).map bv))) 256 rfl rfl (nums_one _ _) (by kernel_rfl) (by simp [List.length_map, lfP_len (kN q) zK_len (eL q (mN q)), nums_length]) (by simp [List.length_map, lfP_len (kN q) zK_len (eL q (mN q)), nums_length, zlen]) (lay_all _ _ (by simp [List.length_map, lfP_len (kN q) zK_len (eL q (mN q)), nums_length, zlen])) ?_
          clear HS
          intro w55 HS
          refine p_run _ (x_assign (.int .i64 (lfE (kN q) zK (eL q (mN q)))) rfl rfl) rfl ?_
          refine wpList_nil ?_
          refine hK44 _ _ ?_
          refine wp_seq_k (fun K56 hK57 => ?_)
          refine wp_seq_k (fun K58 hK59 => ?_)
          rcases op_cases (kN q) zK (eL q (mN q)) q with hA | ⟨hA, hB⟩ | ⟨hA, hB⟩
          · skip
            have hok : okN q = false := by unfold okN; rw [e1, e2, hA]; rfl
            refine c_region (fun ops61 hops60 => ?_)
            refine p_run _ (x_move (.int .i64 (lfE (kN q) zK (eL q (mN q)))) rfl rfl) rfl ?_
            refine p_run _ (x_cmp (k := .i64) (m := (lfE (kN q) zK (eL q (mN q)))) (n := 0) .neq true rfl rfl rfl (by rw [(lf_no hA).2]; decide) rfl) rfl ?_
            refine p_run (l' := (.agg ((nums .u8 (q.map bv))).toArray :: .pointer (some ⟨g5, 0, none⟩) :: .pointer (some ⟨g8, 0, none⟩) :: .int .i64 0 :: .pointer (some ⟨g15, 0, none⟩) :: undef :: .int .i64 ((mN q) : Int) :: .pointer (some ⟨g52, 0, none⟩) :: .int .i64 (lfE (kN q) zK (eL q (mN q))) :: .pointer (some ⟨g5, 0, none⟩) :: .int .u8 ((q.map bv).getD 0 0) :: .int .i64 (kN q) :: nv8 (kN q) (nums .u8 (zK.map bv)) none 0 0 :: .pointer (some ⟨g15, 0, none⟩) :: .int .i64 (kN q) :: .bool false :: U8b8 (undef :: undef :: undef :: .int .i64 ((mN q) : Int) :: .pointer (some ⟨g5, 1, none⟩) :: .int .u8 ((q.map bv).getD 1 0) :: .int .i64 (bv (q.getD 1 0)) :: .bool false :: .bool false :: undef :: undef :: .bool false :: uq30.2.2.2.1 :: uq30.2.2.2.2.1 :: uq30.2.2.2.2.2 :: uq31.1 :: uq31.2.1 :: uq31.2.2.1 :: uq31.2.2.2.1 :: uq31.2.2.2.2.1 :: uq31.2.2.2.2.2 :: uq32.1 :: uq32.2.1 :: uq32.2.2.1 :: uq32.2.2.2.1 :: uq32.2.2.2.2.1 :: uq32.2.2.2.2.2 :: uq33.1 :: uq33.2.1 :: uq33.2.2.1 :: uq33.2.2.2.1 :: uq33.2.2.2.2 :: .tuple [.agg ((nums .u8 ((lfP (kN q) zK (eL q (mN q))).map bv))).toArray, .int .i64 (lfE (kN q) zK (eL q (mN q)))].toArray :: nv8 (kN q) (nums .u8 (zK.map bv)) A45 ((eL q (mN q)).length) c46 :: .tuple [.agg ((nums .u8 ((lfP (kN q) zK (eL q (mN q))).map bv))).toArray, .int .i64 (lfE (kN q) zK (eL q (mN q)))].toArray :: .agg ((nums .u8 ((lfP (kN q) zK (eL q (mN q))).map bv))).toArray :: .int .i64 (lfE (kN q) zK (eL q (mN q))) :: .int .i64 (lfE (kN q) zK (eL q (mN q))) :: .bool true :: .bool true :: U4b8 (undef :: undef :: [])))) _ (x_move (.bool true) rfl rfl) rfl ?_
            refine p_off (by rw [hops60]; rfl) rfl ?_
            refine p_off (by rw [hops60]; rfl) rfl ?_
            refine p_off (by rw [hops60]; rfl) rfl ?_
            refine p_run _ (x_pick true (.bool true) (undef) (.bool true) rfl rfl rfl rfl rfl) rfl ?_
            clear hops60
            refine wpList_nil ?_
            refine hK59 _ _ ?_
            refine c_true rfl ?_
            refine wp_seq_k (fun K62 hK63 => ?_)
            refine c_region (fun ops65 hops64 => ?_)
            clear hops64
            refine p_run _ (x_build (Value.int .i64 0 :: ((nums .u8 (zK.map bv)) ++ ([Value.slice none 0 0]))) rfl (by kernel_rfl)) rfl ?_
            refine St.stores (cs' := (Value.int .i64 0 :: ((nums .u8 (zK.map bv)) ++ ([Value.slice none 0 0])))) (HS.front 3 rfl) (Value.int .i64 0 :: ((nums .u8 (zK.map bv)) ++ ([Value.slice none 0 0]))) 18 rfl rfl (all1 rfl (allA (nums_one _ _) (all1 rfl rfl))) (by kernel_rfl) (by simp [List.length_map, nums_length, zK_len]) (by simp [List.length_map, nums_length, zK_len]) (lay_all _ _ (by simp [List.length_map, nums_length, zK_len])) ?_
            clear HS
            intro w66 HS
            refine p_run _ (x_assign (.int .i64 81) rfl rfl) rfl ?_
            refine wpList_nil ?_
            refine hK63 _ _ ?_
            refine wp_ret ?_
            try simp only [Exit.inBlock, Exit.then]
            refine c_ret (.tuple [nv8 0 (nums .u8 (zK.map bv)) none 0 0, .int .i64 81].toArray) (r_ct rfl rfl (run_loadVar_aggn (by rfl) (Value.int .i64 0 :: ((nums .u8 (zK.map bv)) ++ ([Value.slice none 0 0]))) 18 (by kernel_rfl) (by simp [List.length_map, nums_length, zK_len]) (bkCells (HS.get (.head _)) 0 _ (whole _))) rfl) ?_
            replace HS := HS.nil kEn rfl 62
            obtain ⟨e3, e4, e5, e6⟩ := op_no hok
            rw [e3, e4, e5, e6]
            exact ⟨none, 0, rfl, (((((HS.front 1 rfl).drop.front 1 rfl).drop.front 1 rfl).drop.front 1 rfl).drop.front 1 rfl).drop⟩
          · skip
            have hok : okN q = false := by unfold okN; rw [e1, e2, hA, decide_eq_false hB]; rfl
            refine c_region (fun ops68 hops67 => ?_)
            refine p_run _ (x_move (.int .i64 (lfE (kN q) zK (eL q (mN q)))) rfl rfl) rfl ?_
            refine p_run _ (x_cmp (k := .i64) (m := (lfE (kN q) zK (eL q (mN q)))) (n := 0) .neq false rfl rfl rfl (by rw [(lf_yes hA).2]; decide) rfl) rfl ?_
            refine p_run _ (x_move (.bool false) rfl rfl) rfl ?_
            refine p_on rfl (by rw [hops67]; rfl) ?_
            refine p_run (l' := (.agg ((nums .u8 (q.map bv))).toArray :: .pointer (some ⟨g5, 0, none⟩) :: .pointer (some ⟨g8, 0, none⟩) :: .int .i64 0 :: .pointer (some ⟨g15, 0, none⟩) :: undef :: .int .i64 ((mN q) : Int) :: .pointer (some ⟨g52, 0, none⟩) :: .int .i64 (lfE (kN q) zK (eL q (mN q))) :: .pointer (some ⟨g5, 0, none⟩) :: .int .u8 ((q.map bv).getD 0 0) :: .int .i64 (kN q) :: nv8 (kN q) (nums .u8 (zK.map bv)) none 0 0 :: .pointer (some ⟨g15, 0, none⟩) :: .int .i64 (kN q) :: .bool false :: U8b8 (undef :: undef :: undef :: .int .i64 ((mN q) : Int) :: .pointer (some ⟨g5, 1, none⟩) :: .int .u8 ((q.map bv).getD 1 0) :: .int .i64 (bv (q.getD 1 0)) :: .bool false :: .bool false :: undef :: undef :: .bool false :: uq30.2.2.2.1 :: uq30.2.2.2.2.1 :: uq30.2.2.2.2.2 :: uq31.1 :: uq31.2.1 :: uq31.2.2.1 :: uq31.2.2.2.1 :: uq31.2.2.2.2.1 :: uq31.2.2.2.2.2 :: uq32.1 :: uq32.2.1 :: uq32.2.2.1 :: uq32.2.2.2.1 :: uq32.2.2.2.2.1 :: uq32.2.2.2.2.2 :: uq33.1 :: uq33.2.1 :: uq33.2.2.1 :: uq33.2.2.2.1 :: uq33.2.2.2.2 :: .tuple [.agg ((nums .u8 ((lfP (kN q) zK (eL q (mN q))).map bv))).toArray, .int .i64 (lfE (kN q) zK (eL q (mN q)))].toArray :: nv8 (kN q) (nums .u8 (zK.map bv)) A45 ((eL q (mN q)).length) c46 :: .tuple [.agg ((nums .u8 ((lfP (kN q) zK (eL q (mN q))).map bv))).toArray, .int .i64 (lfE (kN q) zK (eL q (mN q)))].toArray :: .agg ((nums .u8 ((lfP (kN q) zK (eL q (mN q))).map bv))).toArray :: .int .i64 (lfE (kN q) zK (eL q (mN q))) :: .int .i64 (lfE (kN q) zK (eL q (mN q))) :: .bool false :: .bool false :: .agg ((nums .u8 ((lfP (kN q) zK (eL q (mN q))).map bv))).toArray :: U4b8 (undef :: [])))) _ (x_loads ((nums .u8 ((lfP (kN q) zK (eL q (mN q))).map bv))) 256 rfl rfl (bkCells (HS.get (.head _)) 0 _ (whole _)) (by rfl) (by kernel_rfl) (by simp [List.length_map, lfP_len (kN q) zK_len (eL q (mN q)), nums_length])) rfl ?_
            refine p_on rfl (by rw [hops67]; rfl) ?_
            refine p_run _ (x_loads ((nums .u8 (q.map bv))) 256 rfl rfl (bkCells (HS.get (.tail _ (.tail _ (.tail _ (.tail _ (.head _)))))) 0 _ (whole _)) (by rfl) (by kernel_rfl) (by simp [List.length_map, hq, nums_length])) rfl ?_
            refine p_on rfl (by rw [hops67]; rfl) ?_
            refine p_run _ (x_eq .neq (.agg ((nums .u8 ((lfP (kN q) zK (eL q (mN q))).map bv))).toArray) (.agg ((nums .u8 (q.map bv))).toArray) (decide (((lfP (kN q) zK (eL q (mN q))).map bv) = (q.map bv))) true rfl rfl rfl (equal_nums Try.underlying27 Try.underlying5 (by kernel_rfl) (by kernel_rfl) _ _ (by simp [List.length_map, lfP_len (kN q) zK_len (eL q (mN q))]) (by simp [List.length_map, hq])) (by rw [(lf_yes hA).1, decide_eq_false (fun e => hB (map_bv_inj.1 e))]; rfl) rfl (guard_agg (by kernel_rfl)) (guard_agg (by kernel_rfl))) rfl ?_
            refine p_run _ (x_pick false (.bool true) (.bool true) (.bool true) rfl rfl rfl rfl rfl) rfl ?_
            clear hops67
            refine wpList_nil ?_
            refine hK59 _ _ ?_
            refine c_true rfl ?_
            refine wp_seq_k (fun K69 hK70 => ?_)
            refine c_region (fun ops72 hops71 => ?_)
            clear hops71
            refine p_run _ (x_build (Value.int .i64 0 :: ((nums .u8 (zK.map bv)) ++ ([Value.slice none 0 0]))) rfl (by kernel_rfl)) rfl ?_
            refine St.stores (cs' := (Value.int .i64 0 :: ((nums .u8 (zK.map bv)) ++ ([Value.slice none 0 0])))) (HS.front 3 rfl) (Value.int .i64 0 :: ((nums .u8 (zK.map bv)) ++ ([Value.slice none 0 0]))) 18 rfl rfl (all1 rfl (allA (nums_one _ _) (all1 rfl rfl))) (by kernel_rfl) (by simp [List.length_map, nums_length, zK_len]) (by simp [List.length_map, nums_length, zK_len]) (lay_all _ _ (by simp [List.length_map, nums_length, zK_len])) ?_
            clear HS
            intro w73 HS
            refine p_run _ (x_assign (.int .i64 81) rfl rfl) rfl ?_
            refine wpList_nil ?_
            refine hK70 _ _ ?_
            refine wp_ret ?_
            try simp only [Exit.inBlock, Exit.then]
            refine c_ret (.tuple [nv8 0 (nums .u8 (zK.map bv)) none 0 0, .int .i64 81].toArray) (r_ct rfl rfl (run_loadVar_aggn (by rfl) (Value.int .i64 0 :: ((nums .u8 (zK.map bv)) ++ ([Value.slice none 0 0]))) 18 (by kernel_rfl) (by simp [List.length_map, nums_length, zK_len]) (bkCells (HS.get (.head _)) 0 _ (whole _))) rfl) ?_
            replace HS := HS.nil kEn rfl 62
            obtain ⟨e3, e4, e5, e6⟩ := op_no hok
            rw [e3, e4, e5, e6]
            exact ⟨none, 0, rfl, (((((HS.front 1 rfl).drop.front 1 rfl).drop.front 1 rfl).drop.front 1 rfl).drop.front 1 rfl).drop⟩
          · skip
            have hok : okN q = true := by unfold okN; rw [e1, e2, hA, decide_eq_true hB]; rfl
            refine c_region (fun ops75 hops74 => ?_)
            refine p_run _ (x_move (.int .i64 (lfE (kN q) zK (eL q (mN q)))) rfl rfl) rfl ?_
            refine p_run _ (x_cmp (k := .i64) (m := (lfE (kN q) zK (eL q (mN q)))) (n := 0) .neq false rfl rfl rfl (by rw [(lf_yes hA).2]; decide) rfl) rfl ?_
            refine p_run _ (x_move (.bool false) rfl rfl) rfl ?_
            refine p_on rfl (by rw [hops74]; rfl) ?_
            refine p_run _ (x_loads ((nums .u8 ((lfP (kN q) zK (eL q (mN q))).map bv))) 256 rfl rfl (bkCells (HS.get (.head _)) 0 _ (whole _)) (by rfl) (by kernel_rfl) (by simp [List.length_map, lfP_len (kN q) zK_len (eL q (mN q)), nums_length])) rfl ?_
            refine p_on rfl (by rw [hops74]; rfl) ?_
            refine p_run (l' := (.agg ((nums .u8 (q.map bv))).toArray :: .pointer (some ⟨g5, 0, none⟩) :: .pointer (some ⟨g8, 0, none⟩) :: .int .i64 0 :: .pointer (some ⟨g15, 0, none⟩) :: undef :: .int .i64 ((mN q) : Int) :: .pointer (some ⟨g52, 0, none⟩) :: .int .i64 (lfE (kN q) zK (eL q (mN q))) :: .pointer (some ⟨g5, 0, none⟩) :: .int .u8 ((q.map bv).getD 0 0) :: .int .i64 (kN q) :: nv8 (kN q) (nums .u8 (zK.map bv)) none 0 0 :: .pointer (some ⟨g15, 0, none⟩) :: .int .i64 (kN q) :: .bool false :: U8b8 (undef :: undef :: undef :: .int .i64 ((mN q) : Int) :: .pointer (some ⟨g5, 1, none⟩) :: .int .u8 ((q.map bv).getD 1 0) :: .int .i64 (bv (q.getD 1 0)) :: .bool false :: .bool false :: undef :: undef :: .bool false :: uq30.2.2.2.1 :: uq30.2.2.2.2.1 :: uq30.2.2.2.2.2 :: uq31.1 :: uq31.2.1 :: uq31.2.2.1 :: uq31.2.2.2.1 :: uq31.2.2.2.2.1 :: uq31.2.2.2.2.2 :: uq32.1 :: uq32.2.1 :: uq32.2.2.1 :: uq32.2.2.2.1 :: uq32.2.2.2.2.1 :: uq32.2.2.2.2.2 :: uq33.1 :: uq33.2.1 :: uq33.2.2.1 :: uq33.2.2.2.1 :: uq33.2.2.2.2 :: .tuple [.agg ((nums .u8 ((lfP (kN q) zK (eL q (mN q))).map bv))).toArray, .int .i64 (lfE (kN q) zK (eL q (mN q)))].toArray :: nv8 (kN q) (nums .u8 (zK.map bv)) A45 ((eL q (mN q)).length) c46 :: .tuple [.agg ((nums .u8 ((lfP (kN q) zK (eL q (mN q))).map bv))).toArray, .int .i64 (lfE (kN q) zK (eL q (mN q)))].toArray :: .agg ((nums .u8 ((lfP (kN q) zK (eL q (mN q))).map bv))).toArray :: .int .i64 (lfE (kN q) zK (eL q (mN q))) :: .int .i64 (lfE (kN q) zK (eL q (mN q))) :: .bool false :: .bool false :: .agg ((nums .u8 ((lfP (kN q) zK (eL q (mN q))).map bv))).toArray :: .agg ((nums .u8 (q.map bv))).toArray :: U4b8 ([])))) _ (x_loads ((nums .u8 (q.map bv))) 256 rfl rfl (bkCells (HS.get (.tail _ (.tail _ (.tail _ (.tail _ (.head _)))))) 0 _ (whole _)) (by rfl) (by kernel_rfl) (by simp [List.length_map, hq, nums_length])) rfl ?_
            refine p_on rfl (by rw [hops74]; rfl) ?_
            refine p_run _ (x_eq .neq (.agg ((nums .u8 ((lfP (kN q) zK (eL q (mN q))).map bv))).toArray) (.agg ((nums .u8 (q.map bv))).toArray) (decide (((lfP (kN q) zK (eL q (mN q))).map bv) = (q.map bv))) false rfl rfl rfl (equal_nums Try.underlying27 Try.underlying5 (by kernel_rfl) (by kernel_rfl) _ _ (by simp [List.length_map, lfP_len (kN q) zK_len (eL q (mN q))]) (by simp [List.length_map, hq])) (by rw [(lf_yes hA).1, eq_yes hB]; rfl) rfl (guard_agg (by kernel_rfl)) (guard_agg (by kernel_rfl))) rfl ?_
            refine p_run _ (x_pick false (.bool true) (.bool false) (.bool false) rfl rfl rfl rfl rfl) rfl ?_
            clear hops74
            refine wpList_nil ?_
            refine hK59 _ _ ?_
            refine c_false rfl ?_
            refine wp_skip ?_
            refine hK57 _ _ ?_
            refine wp_seq_k (fun K76 hK77 => ?_)
            refine c_region (fun ops79 hops78 => ?_)
            clear hops78
            refine p_run _ (x_loads (Value.int .i64 (kN q) :: ((nums .u8 (zK.map bv)) ++ ([Value.slice A45 ((eL q (mN q)).length) c46]))) 18 rfl rfl (bkCells (HS.get (.tail _ (.tail _ (.head _)))) 0 _ (whole _)) (by rfl) (by kernel_rfl) (by simp [List.length_map, nums_length, zK_len])) rfl ?_
            refine St.stores (cs' := (Value.int .i64 (kN q) :: ((nums .u8 (zK.map bv)) ++ ([Value.slice A45 ((eL q (mN q)).length) c46])))) (HS.front 3 rfl) (Value.int .i64 (kN q) :: ((nums .u8 (zK.map bv)) ++ ([Value.slice A45 ((eL q (mN q)).length) c46]))) 18 rfl rfl (all1 rfl (allA (nums_one _ _) (all1 rfl rfl))) (by kernel_rfl) (by simp [List.length_map, nums_length, zK_len]) (by simp [List.length_map, nums_length, zK_len]) (lay_all _ _ (by simp [List.length_map, nums_length, zK_len])) ?_
            clear HS
            intro w80 HS
            refine p_run _ (x_assign (.int .i64 0) rfl rfl) rfl ?_
            refine wpList_nil ?_
            refine hK77 _ _ ?_
            refine wp_ret ?_
            try simp only [Exit.inBlock, Exit.then]
            refine c_ret (.tuple [nv8 (kN q) (nums .u8 (zK.map bv)) A45 ((eL q (mN q)).length) c46, .int .i64 0].toArray) (r_ct rfl rfl (run_loadVar_aggn (by rfl) (Value.int .i64 (kN q) :: ((nums .u8 (zK.map bv)) ++ ([Value.slice A45 ((eL q (mN q)).length) c46]))) 18 (by kernel_rfl) (by simp [List.length_map, nums_length, zK_len]) (bkCells (HS.get (.head _)) 0 _ (whole _))) rfl) ?_
            obtain ⟨e3, e4, e5, e6⟩ := op_yes hok
            rw [e3, e4, e5, e6, e1, e2]
            exact ⟨_, _, rfl, ((HS.drop.drop.front 1 rfl).drop.front 1 rfl).drop⟩
      · skip
        subst he
        refine c_region (fun ops82 hops81 => ?_)
        refine p_run _ (x_move (.int .i64 ((mN q) : Int)) rfl rfl) rfl ?_
        refine p_run _ (x_indexArr (sz := 1) (j := 1) rfl rfl rfl Try.underlying27 (by kernel_rfl) (by omega) rfl) rfl ?_
        refine p_run _ (x_load (.int .u8 ((q.map bv).getD 1 0)) rfl rfl (bkCell (HS.get (.tail _ (.tail _ (.tail _ (.head _))))) 1 _ (nums_getD (by simp only [List.length_map, hq]; omega))) (by rfl)) rfl ?_
        refine p_run _ (x_conv (k := .u8) (m := ((q.map bv).getD 1 0)) .i64 ((bv (q.getD 1 0))) rfl (by rw [Try.underlying5]; rfl) Try.underlying3 rfl (by rw [bv_getD]; exact wr64' (by have := bv_lo (q.getD 1 0); have := bv_hi (q.getD 1 0); omega))) rfl ?_
        refine p_run _ (x_cmp (k := .i64) (m := ((mN q) : Int)) (n := (bv (q.getD 1 0))) .lss true rfl rfl rfl (show decide _ = true from decide_eq_true h1) rfl) rfl ?_
        refine p_run (l' := (.agg ((nums .u8 (q.map bv))).toArray :: .pointer (some ⟨g5, 0, none⟩) :: .pointer (some ⟨g8, 0, none⟩) :: .int .i64 0 :: .pointer (some ⟨g15, 0, none⟩) :: undef :: .int .i64 ((mN q) : Int) :: undef :: undef :: .pointer (some ⟨g5, 0, none⟩) :: .int .u8 ((q.map bv).getD 0 0) :: .int .i64 (kN q) :: nv8 (kN q) (nums .u8 (zK.map bv)) none 0 0 :: .pointer (some ⟨g15, 0, none⟩) :: .int .i64 (kN q) :: .bool false :: U8b8 (undef :: undef :: undef :: .int .i64 ((mN q) : Int) :: .pointer (some ⟨g5, 1, none⟩) :: .int .u8 ((q.map bv).getD 1 0) :: .int .i64 (bv (q.getD 1 0)) :: .bool true :: .bool true :: uq30.1 :: uq30.2.1 :: uq30.2.2.1 :: uq30.2.2.2.1 :: uq30.2.2.2.2.1 :: uq30.2.2.2.2.2 :: uq31.1 :: uq31.2.1 :: uq31.2.2.1 :: uq31.2.2.2.1 :: uq31.2.2.2.2.1 :: uq31.2.2.2.2.2 :: uq32.1 :: uq32.2.1 :: uq32.2.2.1 :: uq32.2.2.2.1 :: uq32.2.2.2.2.1 :: uq32.2.2.2.2.2 :: uq33.1 :: uq33.2.1 :: uq33.2.2.1 :: uq33.2.2.2.1 :: uq33.2.2.2.2 :: U8b8 (U4b8 (undef :: undef :: []))))) _ (x_move (.bool true) rfl rfl) rfl ?_
        refine p_on rfl (by rw [hops81]; rfl) ?_
        refine p_run _ (x_move (.int .i64 ((mN q) : Int)) rfl rfl) rfl ?_
        refine p_on rfl (by rw [hops81]; rfl) ?_
        refine p_run _ (x_cmp (k := .i64) (m := ((mN q) : Int)) (n := 6) .lss false rfl rfl rfl (show decide _ = false from decide_eq_false h2) rfl) rfl ?_
        refine p_run _ (x_pick true (.bool false) (.bool false) (.bool false) rfl rfl rfl rfl rfl) rfl ?_
        clear hops81
        refine wpList_nil ?_
        refine hK40 _ _ ?_
        refine c_false rfl ?_
        refine wp_exit ?_
        refine hK20 _ _ ?_
        refine wp_seq_k (fun K83 hK84 => ?_)
        skip
        · skip
          obtain ⟨A85, c86, hv87, hcp88, -⟩ := row_reads (HS.get (.head _))
          subst hv87
          refine c_region (fun ops90 hops89 => ?_)
          clear hops89
          refine p_run _ (x_loads (Value.int .i64 (kN q) :: ((nums .u8 (zK.map bv)) ++ ([Value.slice A85 ((eL q (mN q)).length) c86]))) 18 rfl rfl (bkCells (HS.get (.tail _ (.head _))) 0 _ (whole _)) (by rfl) (by kernel_rfl) (by simp [List.length_map, nums_length, zK_len])) rfl ?_
          refine w_call [nv8 (kN q) (nums .u8 (zK.map bv)) A85 ((eL q (mN q)).length) c86] Try.func40 (by kernel_rfl) (by rfl) rfl ?_
          refine (rpage8_any _ (kN q) zK zK_len A85 c86 (eL q (mN q)) (row_C (HS.get (.head _))).2.2 (by have : mN q ≤ 6 := Nat.min_le_right _ _; rw [eL_length]; omega)).mono ?_
          rintro e w91 ⟨rfl, hb_⟩
          replace HS := HS.here hb_
          clear hb_
          refine ⟨_, rfl, ?_⟩
          refine p_run _ (x_move (.tuple [.agg ((nums .u8 ((lfP (kN q) zK (eL q (mN q))).map bv))).toArray, .int .i64 (lfE (kN q) zK (eL q (mN q)))].toArray) rfl rfl) rfl ?_
          refine p_run _ (x_extract (vs := [.agg ((nums .u8 ((lfP (kN q) zK (eL q (mN q))).map bv))).toArray, .int .i64 (lfE (kN q) zK (eL q (mN q)))]) 0 (.agg ((nums .u8 ((lfP (kN q) zK (eL q (mN q))).map bv))).toArray) rfl rfl rfl) rfl ?_
          refine p_run _ (x_extract (vs := [.agg ((nums .u8 ((lfP (kN q) zK (eL q (mN q))).map bv))).toArray, .int .i64 (lfE (kN q) zK (eL q (mN q)))]) 1 (.int .i64 (lfE (kN q) zK (eL q (mN q)))) rfl rfl rfl) rfl ?_
          refine St.wAlloc HS (cs := ((nums .u8 zpg))) (.agg ((nums .u8 zpg)).toArray) (by kernel_rfl) rfl ?_
          clear HS
          intro g92 w93 hg94 HS
          refine St.stores (cs' := ((nums .u8 ((lfP (kN q) zK (eL q (mN q))).map bv)))) HS ((nums .u8 ((lfP (kN q) zK (eL q (mN q))).map bv))) 256 rfl rfl (nums_one _ _) (by kernel_rfl) (by simp [List.length_map, lfP_len (kN q) zK_len (eL q (mN q)), nums_length]) (by simp [List.length_map, lfP_len (kN q) zK_len (eL q (mN q)), nums_length, zlen]) (lay_all _ _ (by simp [List.length_map, lfP_len (kN q) zK_len (eL q (mN q)), nums_length, zlen])) ?_
          clear HS
          intro w95 HS
          refine p_run (l' := (.agg ((nums .u8 (q.map bv))).toArray :: .pointer (some ⟨g5, 0, none⟩) :: .pointer (some ⟨g8, 0, none⟩) :: .int .i64 0 :: .pointer (some ⟨g15, 0, none⟩) :: undef :: .int .i64 ((mN q) : Int) :: .pointer (some ⟨g92, 0, none⟩) :: .int .i64 (lfE (kN q) zK (eL q (mN q))) :: .pointer (some ⟨g5, 0, none⟩) :: .int .u8 ((q.map bv).getD 0 0) :: .int .i64 (kN q) :: nv8 (kN q) (nums .u8 (zK.map bv)) none 0 0 :: .pointer (some ⟨g15, 0, none⟩) :: .int .i64 (kN q) :: .bool false :: U8b8 (undef :: undef :: undef :: .int .i64 ((mN q) : Int) :: .pointer (some ⟨g5, 1, none⟩) :: .int .u8 ((q.map bv).getD 1 0) :: .int .i64 (bv (q.getD 1 0)) :: .bool true :: .bool true :: .int .i64 ((mN q) : Int) :: .bool false :: .bool false :: uq30.2.2.2.1 :: uq30.2.2.2.2.1 :: uq30.2.2.2.2.2 :: uq31.1 :: uq31.2.1 :: uq31.2.2.1 :: uq31.2.2.2.1 :: uq31.2.2.2.2.1 :: uq31.2.2.2.2.2 :: uq32.1 :: uq32.2.1 :: uq32.2.2.1 :: uq32.2.2.2.1 :: uq32.2.2.2.2.1 :: uq32.2.2.2.2.2 :: uq33.1 :: uq33.2.1 :: uq33.2.2.1 :: uq33.2.2.2.1 :: uq33.2.2.2.2 :: .tuple [.agg ((nums .u8 ((lfP (kN q) zK (eL q (mN q))).map bv))).toArray, .int .i64 (lfE (kN q) zK (eL q (mN q)))].toArray :: nv8 (kN q) (nums .u8 (zK.map bv)) A85 ((eL q (mN q)).length) c86 :: .tuple [.agg ((nums .u8 ((lfP (kN q) zK (eL q (mN q))).map bv))).toArray, .int .i64 (lfE (kN q) zK (eL q (mN q)))].toArray :: .agg ((nums .u8 ((lfP (kN q) zK (eL q (mN q))).map bv))).toArray :: .int .i64 (lfE (kN q) zK (eL q (mN q))) :: U8b8 (undef :: [])))) _ (x_assign (.int .i64 (lfE (kN q) zK (eL q (mN q)))) rfl rfl) rfl ?_
          refine wpList_nil ?_
          refine hK84 _ _ ?_
          refine wp_seq_k (fun K96 hK97 => ?_)
          refine wp_seq_k (fun K98 hK99 => ?_)
          rcases op_cases (kN q) zK (eL q (mN q)) q with hA | ⟨hA, hB⟩ | ⟨hA, hB⟩
          · skip
            have hok : okN q = false := by unfold okN; rw [e1, e2, hA]; rfl
            refine c_region (fun ops101 hops100 => ?_)
            refine p_run _ (x_move (.int .i64 (lfE (kN q) zK (eL q (mN q)))) rfl rfl) rfl ?_
            refine p_run _ (x_cmp (k := .i64) (m := (lfE (kN q) zK (eL q (mN q)))) (n := 0) .neq true rfl rfl rfl (by rw [(lf_no hA).2]; decide) rfl) rfl ?_
            refine p_run _ (x_move (.bool true) rfl rfl) rfl ?_
            refine p_off (by rw [hops100]; rfl) rfl ?_
            refine p_off (by rw [hops100]; rfl) rfl ?_
            refine p_off (by rw [hops100]; rfl) rfl ?_
            refine p_run _ (x_pick true (.bool true) (undef) (.bool true) rfl rfl rfl rfl rfl) rfl ?_
            clear hops100
            refine wpList_nil ?_
            refine hK99 _ _ ?_
            refine c_true rfl ?_
            refine wp_seq_k (fun K102 hK103 => ?_)
            refine c_region (fun ops105 hops104 => ?_)
            clear hops104
            refine p_run _ (x_build (Value.int .i64 0 :: ((nums .u8 (zK.map bv)) ++ ([Value.slice none 0 0]))) rfl (by kernel_rfl)) rfl ?_
            refine St.stores (cs' := (Value.int .i64 0 :: ((nums .u8 (zK.map bv)) ++ ([Value.slice none 0 0])))) (HS.front 3 rfl) (Value.int .i64 0 :: ((nums .u8 (zK.map bv)) ++ ([Value.slice none 0 0]))) 18 rfl rfl (all1 rfl (allA (nums_one _ _) (all1 rfl rfl))) (by kernel_rfl) (by simp [List.length_map, nums_length, zK_len]) (by simp [List.length_map, nums_length, zK_len]) (lay_all _ _ (by simp [List.length_map, nums_length, zK_len])) ?_
            clear HS
            intro w106 HS
            refine p_run _ (x_assign (.int .i64 81) rfl rfl) rfl ?_
            refine wpList_nil ?_
            refine fr_at (l' := (.agg ((nums .u8 (q.map bv))).toArray :: .pointer (some ⟨g5, 0, none⟩) :: .pointer (some ⟨g8, 0, none⟩) :: .int .i64 81 :: .pointer (some ⟨g15, 0, none⟩) :: undef :: .int .i64 ((mN q) : Int) :: .pointer (some ⟨g92, 0, none⟩) :: .int .i64 (lfE (kN q) zK (eL q (mN q))) :: .pointer (some ⟨g5, 0, none⟩) :: .int .u8 ((q.map bv).getD 0 0) :: .int .i64 (kN q) :: nv8 (kN q) (nums .u8 (zK.map bv)) none 0 0 :: .pointer (some ⟨g15, 0, none⟩) :: .int .i64 (kN q) :: .bool false :: U8b8 (undef :: undef :: undef :: .int .i64 ((mN q) : Int) :: .pointer (some ⟨g5, 1, none⟩) :: .int .u8 ((q.map bv).getD 1 0) :: .int .i64 (bv (q.getD 1 0)) :: .bool true :: .bool true :: .int .i64 ((mN q) : Int) :: .bool false :: .bool false :: uq30.2.2.2.1 :: uq30.2.2.2.2.1 :: uq30.2.2.2.2.2 :: uq31.1 :: uq31.2.1 :: uq31.2.2.1 :: uq31.2.2.2.1 :: uq31.2.2.2.2.1 :: uq31.2.2.2.2.2 :: uq32.1 :: uq32.2.1 :: uq32.2.2.1 :: uq32.2.2.2.1 :: uq32.2.2.2.2.1 :: uq32.2.2.2.2.2 :: uq33.1 :: uq33.2.1 :: uq33.2.2.1 :: uq33.2.2.2.1 :: uq33.2.2.2.2 :: .tuple [.agg ((nums .u8 ((lfP (kN q) zK (eL q (mN q))).map bv))).toArray, .int .i64 (lfE (kN q) zK (eL q (mN q)))].toArray :: nv8 (kN q) (nums .u8 (zK.map bv)) A85 ((eL q (mN q)).length) c86 :: .tuple [.agg ((nums .u8 ((lfP (kN q) zK (eL q (mN q))).map bv))).toArray, .int .i64 (lfE (kN q) zK (eL q (mN q)))].toArray :: .agg ((nums .u8 ((lfP (kN q) zK (eL q (mN q))).map bv))).toArray :: .int .i64 (lfE (kN q) zK (eL q (mN q))) :: .int .i64 (lfE (kN q) zK (eL q (mN q))) :: .bool true :: .bool true :: undef :: undef :: undef :: .bool true :: nv8 0 (nums .u8 (zK.map bv)) none 0 0 :: undef :: []))) rfl ?_
            refine hK103 _ _ ?_
            refine wp_ret ?_
            try simp only [Exit.inBlock, Exit.then]
            refine c_ret (.tuple [nv8 0 (nums .u8 (zK.map bv)) none 0 0, .int .i64 81].toArray) (r_ct rfl rfl (run_loadVar_aggn (by rfl) (Value.int .i64 0 :: ((nums .u8 (zK.map bv)) ++ ([Value.slice none 0 0]))) 18 (by kernel_rfl) (by simp [List.length_map, nums_length, zK_len]) (bkCells (HS.get (.head _)) 0 _ (whole _))) rfl) ?_
            replace HS := HS.nil kEn rfl 62
            obtain ⟨e3, e4, e5, e6⟩ := op_no hok
            rw [e3, e4, e5, e6]
            exact ⟨none, 0, rfl, (((((HS.front 1 rfl).drop.front 1 rfl).drop.front 1 rfl).drop.front 1 rfl).drop.front 1 rfl).drop⟩
          · skip
            have hok : okN q = false := by unfold okN; rw [e1, e2, hA, decide_eq_false hB]; rfl
            refine c_region (fun ops108 hops107 => ?_)
            refine p_run _ (x_move (.int .i64 (lfE (kN q) zK (eL q (mN q)))) rfl rfl) rfl ?_
            refine p_run _ (x_cmp (k := .i64) (m := (lfE (kN q) zK (eL q (mN q)))) (n := 0) .neq false rfl rfl rfl (by rw [(lf_yes hA).2]; decide) rfl) rfl ?_
            refine p_run _ (x_move (.bool false) rfl rfl) rfl ?_
            refine p_on rfl (by rw [hops107]; rfl) ?_
            refine p_run _ (x_loads ((nums .u8 ((lfP (kN q) zK (eL q (mN q))).map bv))) 256 rfl rfl (bkCells (HS.get (.head _)) 0 _ (whole _)) (by rfl) (by kernel_rfl) (by simp [List.length_map, lfP_len (kN q) zK_len (eL q (mN q)), nums_length])) rfl ?_
            refine p_on rfl (by rw [hops107]; rfl) ?_
            refine p_run _ (x_loads ((nums .u8 (q.map bv))) 256 rfl rfl (bkCells (HS.get (.tail _ (.tail _ (.tail _ (.tail _ (.head _)))))) 0 _ (whole _)) (by rfl) (by kernel_rfl) (by simp [List.length_map, hq, nums_length])) rfl ?_
            refine p_on rfl (by rw [hops107]; rfl) ?_
            refine p_run _ (x_eq .neq (.agg ((nums .u8 ((lfP (kN q) zK (eL q (mN q))).map bv))).toArray) (.agg ((nums .u8 (q.map bv))).toArray) (decide (((lfP (kN q) zK (eL q (mN q))).map bv) = (q.map bv))) true rfl rfl rfl (equal_nums Try.underlying27 Try.underlying5 (by kernel_rfl) (by kernel_rfl) _ _ (by simp [List.length_map, lfP_len (kN q) zK_len (eL q (mN q))]) (by simp [List.length_map, hq])) (by rw [(lf_yes hA).1, decide_eq_false (fun e => hB (map_bv_inj.1 e))]; rfl) rfl (guard_agg (by kernel_rfl)) (guard_agg (by kernel_rfl))) rfl ?_
            refine p_run _ (x_pick false (.bool true) (.bool true) (.bool true) rfl rfl rfl rfl rfl) rfl ?_
            clear hops107
            refine wpList_nil ?_
            refine hK99 _ _ ?_
            refine c_true rfl ?_
            refine wp_seq_k (fun K109 hK110 => ?_)
            refine c_region (fun ops112 hops111 => ?_)
            clear hops111
            refine p_run _ (x_build (Value.int .i64 0 :: ((nums .u8 (zK.map bv)) ++ ([Value.slice none 0 0]))) rfl (by kernel_rfl)) rfl ?_
            refine St.stores (cs' := (Value.int .i64 0 :: ((nums .u8 (zK.map bv)) ++ ([Value.slice none 0 0])))) (HS.front 3 rfl) (Value.int .i64 0 :: ((nums .u8 (zK.map bv)) ++ ([Value.slice none 0 0]))) 18 rfl rfl (all1 rfl (allA (nums_one _ _) (all1 rfl rfl))) (by kernel_rfl) (by simp [List.length_map, nums_length, zK_len]) (by simp [List.length_map, nums_length, zK_len]) (lay_all _ _ (by simp [List.length_map, nums_length, zK_len])) ?_
            clear HS
            intro w113 HS
            refine p_run _ (x_assign (.int .i64 81) rfl rfl) rfl ?_
            refine wpList_nil ?_
            refine fr_at (l' := (.agg ((nums .u8 (q.map bv))).toArray :: .pointer (some ⟨g5, 0, none⟩) :: .pointer (some ⟨g8, 0, none⟩) :: .int .i64 81 :: .pointer (some ⟨g15, 0, none⟩) :: undef :: .int .i64 ((mN q) : Int) :: .pointer (some ⟨g92, 0, none⟩) :: .int .i64 (lfE (kN q) zK (eL q (mN q))) :: .pointer (some ⟨g5, 0, none⟩) :: .int .u8 ((q.map bv).getD 0 0) :: .int .i64 (kN q) :: nv8 (kN q) (nums .u8 (zK.map bv)) none 0 0 :: .pointer (some ⟨g15, 0, none⟩) :: .int .i64 (kN q) :: .bool false :: U8b8 (undef :: undef :: undef :: .int .i64 ((mN q) : Int) :: .pointer (some ⟨g5, 1, none⟩) :: .int .u8 ((q.map bv).getD 1 0) :: .int .i64 (bv (q.getD 1 0)) :: .bool true :: .bool true :: .int .i64 ((mN q) : Int) :: .bool false :: .bool false :: uq30.2.2.2.1 :: uq30.2.2.2.2.1 :: uq30.2.2.2.2.2 :: uq31.1 :: uq31.2.1 :: uq31.2.2.1 :: uq31.2.2.2.1 :: uq31.2.2.2.2.1 :: uq31.2.2.2.2.2 :: uq32.1 :: uq32.2.1 :: uq32.2.2.1 :: uq32.2.2.2.1 :: uq32.2.2.2.2.1 :: uq32.2.2.2.2.2 :: uq33.1 :: uq33.2.1 :: uq33.2.2.1 :: uq33.2.2.2.1 :: uq33.2.2.2.2 :: .tuple [.agg ((nums .u8 ((lfP (kN q) zK (eL q (mN q))).map bv))).toArray, .int .i64 (lfE (kN q) zK (eL q (mN q)))].toArray :: nv8 (kN q) (nums .u8 (zK.map bv)) A85 ((eL q (mN q)).length) c86 :: .tuple [.agg ((nums .u8 ((lfP (kN q) zK (eL q (mN q))).map bv))).toArray, .int .i64 (lfE (kN q) zK (eL q (mN q)))].toArray :: .agg ((nums .u8 ((lfP (kN q) zK (eL q (mN q))).map bv))).toArray :: .int .i64 (lfE (kN q) zK (eL q (mN q))) :: .int .i64 (lfE (kN q) zK (eL q (mN q))) :: .bool false :: .bool false :: .agg ((nums .u8 ((lfP (kN q) zK (eL q (mN q))).map bv))).toArray :: .agg ((nums .u8 (q.map bv))).toArray :: .bool true :: .bool true :: nv8 0 (nums .u8 (zK.map bv)) none 0 0 :: undef :: []))) rfl ?_
            refine hK110 _ _ ?_
            refine wp_ret ?_
            try simp only [Exit.inBlock, Exit.then]
            refine c_ret (.tuple [nv8 0 (nums .u8 (zK.map bv)) none 0 0, .int .i64 81].toArray) (r_ct rfl rfl (run_loadVar_aggn (by rfl) (Value.int .i64 0 :: ((nums .u8 (zK.map bv)) ++ ([Value.slice none 0 0]))) 18 (by kernel_rfl) (by simp [List.length_map, nums_length, zK_len]) (bkCells (HS.get (.head _)) 0 _ (whole _))) rfl) ?_
            replace HS := HS.nil kEn rfl 62
            obtain ⟨e3, e4, e5, e6⟩ := op_no hok
            rw [e3, e4, e5, e6]
            exact ⟨none, 0, rfl, (((((HS.front 1 rfl).drop.front 1 rfl).drop.front 1 rfl).drop.front 1 rfl).drop.front 1 rfl).drop⟩
          · skip
            have hok : okN q = true := by unfold okN; rw [e1, e2, hA, decide_eq_true hB]; rfl
            refine c_region (fun ops115 hops114 => ?_)
            refine p_run _ (x_move (.int .i64 (lfE (kN q) zK (eL q (mN q)))) rfl rfl) rfl ?_
            refine p_run _ (x_cmp (k := .i64) (m := (lfE (kN q) zK (eL q (mN q)))) (n := 0) .neq false rfl rfl rfl (by rw [(lf_yes hA).2]; decide) rfl) rfl ?_
            refine p_run _ (x_move (.bool false) rfl rfl) rfl ?_
            refine p_on rfl (by rw [hops114]; rfl) ?_
            refine p_run _ (x_loads ((nums .u8 ((lfP (kN q) zK (eL q (mN q))).map bv))) 256 rfl rfl (bkCells (HS.get (.head _)) 0 _ (whole _)) (by rfl) (by kernel_rfl) (by simp [List.length_map, lfP_len (kN q) zK_len (eL q (mN q)), nums_length])) rfl ?_
            refine p_on rfl (by rw [hops114]; rfl) ?_
            refine p_run _ (x_loads ((nums .u8 (q.map bv))) 256 rfl rfl (bkCells (HS.get (.tail _ (.tail _ (.tail _ (.tail _ (.head _)))))) 0 _ (whole _)) (by rfl) (by kernel_rfl) (by simp [List.length_map, hq, nums_length])) rfl ?_
            refine p_on rfl (by rw [hops114]; rfl) ?_
            refine p_run _ (x_eq .neq (.agg ((nums .u8 ((lfP (kN q) zK (eL q (mN q))).map bv))).toArray) (.agg ((nums .u8 (q.map bv))).toArray) (decide (((lfP (kN q) zK (eL q (mN q))).map bv) = (q.map bv))) false rfl rfl rfl (equal_nums Try.underlying27 Try.underlying5 (by kernel_rfl) (by kernel_rfl) _ _ (by simp [List.length_map, lfP_len (kN q) zK_len (eL q (mN q))]) (by simp [List.length_map, hq])) (by rw [(lf_yes hA).1, eq_yes hB]; rfl) rfl (guard_agg (by kernel_rfl)) (guard_agg (by kernel_rfl))) rfl ?_
            refine p_run _ (x_pick false (.bool true) (.bool false) (.bool false) rfl rfl rfl rfl rfl) rfl ?_
            clear hops114
            refine wpList_nil ?_
            refine hK99 _ _ ?_
            refine c_false rfl ?_
            refine wp_skip ?_
            refine hK97 _ _ ?_
            refine wp_seq_k (fun K116 hK117 => ?_)
            refine c_region (fun ops119 hops118 => ?_)
            clear hops118
            refine p_run _ (x_loads (Value.int .i64 (kN q) :: ((nums .u8 (zK.map bv)) ++ ([Value.slice A85 ((eL q (mN q)).length) c86]))) 18 rfl rfl (bkCells (HS.get (.tail _ (.tail _ (.head _)))) 0 _ (whole _)) (by rfl) (by kernel_rfl) (by simp [List.length_map, nums_length, zK_len])) rfl ?_
            refine St.stores (cs' := (Value.int .i64 (kN q) :: ((nums .u8 (zK.map bv)) ++ ([Value.slice A85 ((eL q (mN q)).length) c86])))) (HS.front 3 rfl) (Value.int .i64 (kN q) :: ((nums .u8 (zK.map bv)) ++ ([Value.slice A85 ((eL q (mN q)).length) c86]))) 18 rfl rfl (all1 rfl (allA (nums_one _ _) (all1 rfl rfl))) (by kernel_rfl) (by simp [List.length_map, nums_length, zK_len]) (by simp [List.length_map, nums_length, zK_len]) (lay_all _ _ (by simp [List.length_map, nums_length, zK_len])) ?_
            clear HS
            intro w120 HS
            refine p_run _ (x_assign (.int .i64 0) rfl rfl) rfl ?_
            refine wpList_nil ?_
            refine fr_at (l' := (.agg ((nums .u8 (q.map bv))).toArray :: .pointer (some ⟨g5, 0, none⟩) :: .pointer (some ⟨g8, 0, none⟩) :: .int .i64 0 :: .pointer (some ⟨g15, 0, none⟩) :: undef :: .int .i64 ((mN q) : Int) :: .pointer (some ⟨g92, 0, none⟩) :: .int .i64 (lfE (kN q) zK (eL q (mN q))) :: .pointer (some ⟨g5, 0, none⟩) :: .int .u8 ((q.map bv).getD 0 0) :: .int .i64 (kN q) :: nv8 (kN q) (nums .u8 (zK.map bv)) none 0 0 :: .pointer (some ⟨g15, 0, none⟩) :: .int .i64 (kN q) :: .bool false :: U8b8 (undef :: undef :: undef :: .int .i64 ((mN q) : Int) :: .pointer (some ⟨g5, 1, none⟩) :: .int .u8 ((q.map bv).getD 1 0) :: .int .i64 (bv (q.getD 1 0)) :: .bool true :: .bool true :: .int .i64 ((mN q) : Int) :: .bool false :: .bool false :: uq30.2.2.2.1 :: uq30.2.2.2.2.1 :: uq30.2.2.2.2.2 :: uq31.1 :: uq31.2.1 :: uq31.2.2.1 :: uq31.2.2.2.1 :: uq31.2.2.2.2.1 :: uq31.2.2.2.2.2 :: uq32.1 :: uq32.2.1 :: uq32.2.2.1 :: uq32.2.2.2.1 :: uq32.2.2.2.2.1 :: uq32.2.2.2.2.2 :: uq33.1 :: uq33.2.1 :: uq33.2.2.1 :: uq33.2.2.2.1 :: uq33.2.2.2.2 :: .tuple [.agg ((nums .u8 ((lfP (kN q) zK (eL q (mN q))).map bv))).toArray, .int .i64 (lfE (kN q) zK (eL q (mN q)))].toArray :: nv8 (kN q) (nums .u8 (zK.map bv)) A85 ((eL q (mN q)).length) c86 :: .tuple [.agg ((nums .u8 ((lfP (kN q) zK (eL q (mN q))).map bv))).toArray, .int .i64 (lfE (kN q) zK (eL q (mN q)))].toArray :: .agg ((nums .u8 ((lfP (kN q) zK (eL q (mN q))).map bv))).toArray :: .int .i64 (lfE (kN q) zK (eL q (mN q))) :: .int .i64 (lfE (kN q) zK (eL q (mN q))) :: .bool false :: .bool false :: .agg ((nums .u8 ((lfP (kN q) zK (eL q (mN q))).map bv))).toArray :: .agg ((nums .u8 (q.map bv))).toArray :: .bool false :: .bool false :: undef :: nv8 (kN q) (nums .u8 (zK.map bv)) A85 ((eL q (mN q)).length) c86 :: []))) rfl ?_
            refine hK117 _ _ ?_
            refine wp_ret ?_
            try simp only [Exit.inBlock, Exit.then]
            refine c_ret (.tuple [nv8 (kN q) (nums .u8 (zK.map bv)) A85 ((eL q (mN q)).length) c86, .int .i64 0].toArray) (r_ct rfl rfl (run_loadVar_aggn (by rfl) (Value.int .i64 (kN q) :: ((nums .u8 (zK.map bv)) ++ ([Value.slice A85 ((eL q (mN q)).length) c86]))) 18 (by kernel_rfl) (by simp [List.length_map, nums_length, zK_len]) (bkCells (HS.get (.head _)) 0 _ (whole _))) rfl) ?_
            obtain ⟨e3, e4, e5, e6⟩ := op_yes hok
            rw [e3, e4, e5, e6, e1, e2]
            exact ⟨_, _, rfl, ((HS.drop.drop.front 1 rfl).drop.front 1 rfl).drop⟩
      · skip
        have hm6 : mN q ≤ 6 := Nat.min_le_right _ _
        refine c_region (fun ops122 hops121 => ?_)
        refine p_run _ (x_move (.int .i64 (j : Int)) rfl rfl) rfl ?_
        refine p_run _ (x_indexArr (sz := 1) (j := 1) rfl rfl rfl Try.underlying27 (by kernel_rfl) (by omega) rfl) rfl ?_
        refine p_run _ (x_load (.int .u8 ((q.map bv).getD 1 0)) rfl rfl (bkCell (HS.get (.tail _ (.tail _ (.tail _ (.head _))))) 1 _ (nums_getD (by simp only [List.length_map, hq]; omega))) (by rfl)) rfl ?_
        refine p_run _ (x_conv (k := .u8) (m := ((q.map bv).getD 1 0)) .i64 ((bv (q.getD 1 0))) rfl (by rw [Try.underlying5]; rfl) Try.underlying3 rfl (by rw [bv_getD]; exact wr64' (by have := bv_lo (q.getD 1 0); have := bv_hi (q.getD 1 0); omega))) rfl ?_
        refine p_run _ (x_cmp (k := .i64) (m := (j : Int)) (n := (bv (q.getD 1 0))) .lss true rfl rfl rfl (show decide _ = true from decide_eq_true h1) rfl) rfl ?_
        refine p_run _ (x_move (.bool true) rfl rfl) rfl ?_
        refine p_on rfl (by rw [hops121]; rfl) ?_
        refine p_run _ (x_move (.int .i64 (j : Int)) rfl rfl) rfl ?_
        refine p_on rfl (by rw [hops121]; rfl) ?_
        refine p_run _ (x_cmp (k := .i64) (m := (j : Int)) (n := 6) .lss true rfl rfl rfl (show decide _ = true from decide_eq_true h2) rfl) rfl ?_
        refine p_run _ (x_pick true (.bool true) (.bool false) (.bool true) rfl rfl rfl rfl rfl) rfl ?_
        clear hops121
        refine wpList_nil ?_
        refine fr_at (l' := (.agg ((nums .u8 (q.map bv))).toArray :: .pointer (some ⟨g5, 0, none⟩) :: .pointer (some ⟨g8, 0, none⟩) :: .int .i64 0 :: .pointer (some ⟨g15, 0, none⟩) :: undef :: .int .i64 (j : Int) :: undef :: undef :: .pointer (some ⟨g5, 0, none⟩) :: .int .u8 ((q.map bv).getD 0 0) :: .int .i64 (kN q) :: nv8 (kN q) (nums .u8 (zK.map bv)) none 0 0 :: .pointer (some ⟨g15, 0, none⟩) :: .int .i64 (kN q) :: .bool false :: U8b8 (undef :: undef :: undef :: .int .i64 (j : Int) :: .pointer (some ⟨g5, 1, none⟩) :: .int .u8 ((q.map bv).getD 1 0) :: .int .i64 (bv (q.getD 1 0)) :: .bool true :: .bool true :: .int .i64 (j : Int) :: .bool true :: .bool true :: uq30.2.2.2.1 :: uq30.2.2.2.2.1 :: uq30.2.2.2.2.2 :: uq31.1 :: uq31.2.1 :: uq31.2.2.1 :: uq31.2.2.2.1 :: uq31.2.2.2.2.1 :: uq31.2.2.2.2.2 :: uq32.1 :: uq32.2.1 :: uq32.2.2.1 :: uq32.2.2.2.1 :: uq32.2.2.2.2.1 :: uq32.2.2.2.2.2 :: uq33.1 :: uq33.2.1 :: uq33.2.2.1 :: uq33.2.2.2.1 :: uq33.2.2.2.2 :: U8b8 (U4b8 (undef :: undef :: []))))) rfl ?_
        refine hK40 _ _ ?_
        refine c_true rfl ?_
        refine wp_skip ?_
        refine hK38 _ _ ?_
        refine wp_seq_k (fun K123 hK124 => ?_)
        refine wp_block ?_
        refine free_frame (n := 19) (T := _) [0, 1, 0, 4, 12, 28, 60, 124, 0, 256, 768, 1792, 3840, 7936, 16380, 32764, 65535, 131071, 262143] [(0, 38), (1, 39), (2, 40), (3, 41), (4, 42), (5, 43), (6, 44), (7, 45), (8, 46), (9, 47), (10, 48), (11, 49), (12, 50), (13, 51), (14, 52), (15, 53), (16, 54), (17, 55)] (fun bq_ vq_ w_ => qv ((fun i_ => match i_ with | 0 => some (.pointer (some ⟨g15, 17, none⟩)) | 1 => some (ve) | 2 => some (.int .i64 (j : Int)) | 3 => some (.int .i64 ((2 * j : Nat) : Int)) | 4 => some (.int .i64 ((2 + 2 * j : Nat) : Int)) | 5 => some (.pointer (some ⟨g5, (2 + 2 * j : Nat), none⟩)) | 6 => some (.int .u8 ((q.map bv).getD (2 + 2 * j : Nat) 0)) | 7 => some (.int .i64 (bv (q.getD (2 + 2 * j) 0))) | 8 => some (.int .i64 (j : Int)) | 9 => some (.int .i64 ((2 * j : Nat) : Int)) | 10 => some (.int .i64 ((2 + 2 * j + 1 : Nat) : Int)) | 11 => some (.pointer (some ⟨g5, (2 + 2 * j + 1 : Nat), none⟩)) | 12 => some (.int .u8 ((q.map bv).getD (2 + 2 * j + 1 : Nat) 0)) | 13 => some (.int .i64 (bv (q.getD (2 + 2 * j + 1) 0))) | 14 => some (.agg ([.int .i64 (bv (q.getD (2 + 2 * j) 0)), .int .i64 (bv (q.getD (2 + 2 * j + 1) 0))] : List Value).toArray) | 17 => some (.pointer (some ⟨g15, 17, none⟩)) | _ => none) : Nat → Option Value) bq_ vq_ ∧ cond (bq_ 18) (∃ (g127 : Nat) (v130 : Value), vq_ 15 = .slice (some ⟨g127, 0, none⟩) 1 1 ∧ vq_ 16 = v130 ∧ St w (fun _ => False) w_ ([blk g15 (Value.int .i64 (kN q) :: ((nums .u8 (zK.map bv)) ++ ([v130]))) 52, row kEn rfl 62 v130 ((eL q j) ++ [((bv (q.getD (2 + 2 * j) 0)), (bv (q.getD (2 + 2 * j + 1) 0)))]), blk g127 [.int .i64 (bv (q.getD (2 + 2 * j) 0)), .int .i64 (bv (q.getD (2 + 2 * j + 1) 0))] 62, blk g8 (Value.int .i64 0 :: ((nums .u8 (zK.map bv)) ++ ([Value.slice none 0 0]))) 52, blk g5 ((nums .u8 (q.map bv))) 27])) (cond (bq_ 16) (∃ (g127 : Nat) (v130 : Value), vq_ 15 = .slice (some ⟨g127, 0, none⟩) 1 1 ∧ vq_ 16 = v130 ∧ St w (fun _ => False) w_ ([row kEn rfl 62 v130 ((eL q j) ++ [((bv (q.getD (2 + 2 * j) 0)), (bv (q.getD (2 + 2 * j + 1) 0)))]), blk g127 [.int .i64 (bv (q.getD (2 + 2 * j) 0)), .int .i64 (bv (q.getD (2 + 2 * j + 1) 0))] 62, blk g15 (Value.int .i64 (kN q) :: ((nums .u8 (zK.map bv)) ++ ([ve]))) 52, blk g8 (Value.int .i64 0 :: ((nums .u8 (zK.map bv)) ++ ([Value.slice none 0 0]))) 52, blk g5 ((nums .u8 (q.map bv))) 27])) (cond (bq_ 15) (∃ (g127 : Nat), vq_ 15 = .slice (some ⟨g127, 0, none⟩) 1 1 ∧ St w (fun _ => False) w_ ([blk g127 [.int .i64 (bv (q.getD (2 + 2 * j) 0)), .int .i64 (bv (q.getD (2 + 2 * j + 1) 0))] 62, row kEn rfl 62 ve (eL q j), blk g15 (Value.int .i64 (kN q) :: ((nums .u8 (zK.map bv)) ++ ([ve]))) 52, blk g8 (Value.int .i64 0 :: ((nums .u8 (zK.map bv)) ++ ([Value.slice none 0 0]))) 52, blk g5 ((nums .u8 (q.map bv))) 27])) ((St w (fun _ => False) w_ ([row kEn rfl 62 ve (eL q j), blk g15 (Value.int .i64 (kN q) :: ((nums .u8 (zK.map bv)) ++ ([ve]))) 52, blk g8 (Value.int .i64 0 :: ((nums .u8 (zK.map bv)) ++ ([Value.slice none 0 0]))) 52, blk g5 ((nums .u8 (q.map bv))) 27])))))) (by kernel_rfl) rfl rfl (by kernel_rfl) (by kernel_rfl) rfl (by kernel_rfl) (by kernel_rfl) ⟨qv_none, HS.draw⟩ ?_ ?_
        · clear HS
          intro i_ hi_ bq_ vq_ a_ w_ hG hb_ hon hoff hfr hel hval
          obtain ⟨hV, hE⟩ := hG
          have hi_ := List.mem_range.1 hi_
          obtain ⟨l_, rfl⟩ := hfr
          have hv_ := fun (j t : Nat) (v : Value) (h1 : (j, t) ∈ [(0, 38), (1, 39), (2, 40), (3, 41), (4, 42), (5, 43), (6, 44), (7, 45), (8, 46), (9, 47), (10, 48), (11, 49), (12, 50), (13, 51), (14, 52), (15, 53), (16, 54), (17, 55)]) h2 h3 => (hval (j, t) h1 h3).trans (congrArg some (hV j v h2 h3))
          have hcs : i_ = 0 ∨ i_ = 1 ∨ i_ = 2 ∨ i_ = 3 ∨ i_ = 4 ∨ i_ = 5 ∨ i_ = 6 ∨ i_ = 7 ∨ i_ = 8 ∨ i_ = 9 ∨ i_ = 10 ∨ i_ = 11 ∨ i_ = 12 ∨ i_ = 13 ∨ i_ = 14 ∨ i_ = 15 ∨ i_ = 16 ∨ i_ = 17 ∨ i_ = 18 := by omega
          rcases hcs with rfl | rfl | rfl | rfl | rfl | rfl | rfl | rfl | rfl | rfl | rfl | rfl | rfl | rfl | rfl | rfl | rfl | rfl | rfl
          · have e4 : evl l_ (.tmp 4) = .pointer (some ⟨g15, 0, none⟩) := evl_of ((hel 4 (by decide)).trans rfl)
            exact ⟨_, rfl, fun K_ hK_ => q_op _ (x_field (j := 17) _ _ rfl e4 Try.underlying52 rfl (by rfl) rfl) (hK_ _ _ ⟨qv_up hV (fun _ h => Option.some.inj h), hE⟩)⟩
          · rcases hq15 : bq_ 15 with _ | _
            · skip
              have hE0 := hE
              rw [show bq_ 18 = false from (hoff 18 (by decide))] at hE0
              rw [show bq_ 16 = false from (hoff 16 (by decide))] at hE0
              rw [show bq_ 15 = false from hq15] at hE0
              simp only [cond_true, cond_false] at hE0
              have HS := hE0
              have e38 : evl l_ (.tmp 38) = .pointer (some ⟨g15, 17, none⟩) := evl_of (hv_ 0 38 _ (by decide) rfl (hon 0 (by decide)))
              exact ⟨_, rfl, fun K_ hK_ => q_op _ (x_load (ve) rfl e38 (bkCell (HS.get (.tail _ (.head _))) 17 _ (by simp [List.getElem?_append, List.length_map, nums_length, zK_len])) (by rfl)) (hK_ _ _ ⟨qv_up hV (fun _ h => Option.some.inj h), hE⟩)⟩
            · have hE0 := hE
              rw [show bq_ 18 = false from (hoff 18 (by decide))] at hE0
              rw [show bq_ 16 = false from (hoff 16 (by decide))] at hE0
              rw [show bq_ 15 = true from hq15] at hE0
              simp only [cond_true, cond_false] at hE0
              obtain ⟨g127, hv15, HS⟩ := hE0
              have e38 : evl l_ (.tmp 38) = .pointer (some ⟨g15, 17, none⟩) := evl_of (hv_ 0 38 _ (by decide) rfl (hon 0 (by decide)))
              exact ⟨_, rfl, fun K_ hK_ => q_op _ (x_load (ve) rfl e38 (bkCell (HS.get (.tail _ (.tail _ (.head _)))) 17 _ (by simp [List.getElem?_append, List.length_map, nums_length, zK_len])) (by rfl)) (hK_ _ _ ⟨qv_up hV (fun _ h => Option.some.inj h), hE⟩)⟩
          · have e6 : evl l_ (.tmp 6) = .int .i64 (j : Int) := evl_of ((hel 6 (by decide)).trans rfl)
            exact ⟨_, rfl, fun K_ hK_ => q_op _ (x_move (.int .i64 (j : Int)) rfl e6) (hK_ _ _ ⟨qv_up hV (fun _ h => Option.some.inj h), hE⟩)⟩
          · have e40 : evl l_ (.tmp 40) = .int .i64 (j : Int) := evl_of (hv_ 2 40 _ (by decide) rfl (hon 2 (by decide)))
            exact ⟨_, rfl, fun K_ hK_ => q_op _ (x_arith (k := .i64) (m := 2) (n := (j : Int)) .mul (((2 * j : Nat) : Int)) rfl rfl e40 (show IntKind.i64.wrap (2 * (j : Int)) = ((2 * j : Nat) : Int) from ((wr64' (by omega)).trans (by omega))) rfl) (hK_ _ _ ⟨qv_up hV (fun _ h => Option.some.inj h), hE⟩)⟩
          · have e41 : evl l_ (.tmp 41) = .int .i64 ((2 * j : Nat) : Int) := evl_of (hv_ 3 41 _ (by decide) rfl (hon 3 (by decide)))
            exact ⟨_, rfl, fun K_ hK_ => q_op _ (x_arith (k := .i64) (m := 2) (n := ((2 * j : Nat) : Int)) .add (((2 + 2 * j : Nat) : Int)) rfl rfl e41 (show IntKind.i64.wrap (2 + ((2 * j : Nat) : Int)) = ((2 + 2 * j : Nat) : Int) from ((wr64' (by omega)).trans (by omega))) rfl) (hK_ _ _ ⟨qv_up hV (fun _ h => Option.some.inj h), hE⟩)⟩
          · have e1 : evl l_ (.tmp 1) = .pointer (some ⟨g5, 0, none⟩) := evl_of ((hel 1 (by decide)).trans rfl)
            have e42 : evl l_ (.tmp 42) = .int .i64 ((2 + 2 * j : Nat) : Int) := evl_of (hv_ 4 42 _ (by decide) rfl (hon 4 (by decide)))
            exact ⟨_, rfl, fun K_ hK_ => q_op _ (x_indexArr (sz := 1) (j := (2 + 2 * j : Nat)) rfl e1 e42 Try.underlying27 (by kernel_rfl) (by omega) (by first | rfl | (simp; done) | (simp <;> omega) | omega)) (hK_ _ _ ⟨qv_up hV (fun _ h => Option.some.inj h), hE⟩)⟩
          · have hE0 := hE
            rw [show bq_ 18 = false from (hoff 18 (by decide))] at hE0
            rw [show bq_ 16 = false from (hoff 16 (by decide))] at hE0
            rw [show bq_ 15 = false from (hoff 15 (by decide))] at hE0
            simp only [cond_true, cond_false] at hE0
            have HS := hE0
            have e43 : evl l_ (.tmp 43) = .pointer (some ⟨g5, (2 + 2 * j : Nat), none⟩) := evl_of (hv_ 5 43 _ (by decide) rfl (hon 5 (by decide)))
            exact ⟨_, rfl, fun K_ hK_ => q_op _ (x_load (.int .u8 ((q.map bv).getD (2 + 2 * j : Nat) 0)) rfl e43 (bkCell (HS.get (.tail _ (.tail _ (.tail _ (.head _))))) (2 + 2 * j : Nat) _ (nums_getD (by simp only [List.length_map, hq]; omega))) (by rfl)) (hK_ _ _ ⟨qv_up hV (fun _ h => Option.some.inj h), hE⟩)⟩
          · have e44 : evl l_ (.tmp 44) = .int .u8 ((q.map bv).getD (2 + 2 * j : Nat) 0) := evl_of (hv_ 6 44 _ (by decide) rfl (hon 6 (by decide)))
            exact ⟨_, rfl, fun K_ hK_ => q_op _ (x_conv (k := .u8) (m := ((q.map bv).getD (2 + 2 * j : Nat) 0)) .i64 ((bv (q.getD (2 + 2 * j) 0))) rfl (by rw [Try.underlying5]; rfl) Try.underlying3 e44 (by rw [bv_getD]; exact wr64' (by have := bv_lo (q.getD (2 + 2 * j) 0); have := bv_hi (q.getD (2 + 2 * j) 0); omega))) (hK_ _ _ ⟨qv_up hV (fun _ h => Option.some.inj h), hE⟩)⟩
          · have e6 : evl l_ (.tmp 6) = .int .i64 (j : Int) := evl_of ((hel 6 (by decide)).trans rfl)
            exact ⟨_, rfl, fun K_ hK_ => q_op _ (x_move (.int .i64 (j : Int)) rfl e6) (hK_ _ _ ⟨qv_up hV (fun _ h => Option.some.inj h), hE⟩)⟩
          · have e46 : evl l_ (.tmp 46) = .int .i64 (j : Int) := evl_of (hv_ 8 46 _ (by decide) rfl (hon 8 (by decide)))
            exact ⟨_, rfl, fun K_ hK_ => q_op _ (x_arith (k := .i64) (m := 2) (n := (j : Int)) .mul (((2 * j : Nat) : Int)) rfl rfl e46 (show IntKind.i64.wrap (2 * (j : Int)) = ((2 * j : Nat) : Int) from ((wr64' (by omega)).trans (by omega))) rfl) (hK_ _ _ ⟨qv_up hV (fun _ h => Option.some.inj h), hE⟩)⟩
          · have e47 : evl l_ (.tmp 47) = .int .i64 ((2 * j : Nat) : Int) := evl_of (hv_ 9 47 _ (by decide) rfl (hon 9 (by decide)))
            exact ⟨_, rfl, fun K_ hK_ => q_op _ (x_arith (k := .i64) (m := 3) (n := ((2 * j : Nat) : Int)) .add (((2 + 2 * j + 1 : Nat) : Int)) rfl rfl e47 (show IntKind.i64.wrap (3 + ((2 * j : Nat) : Int)) = ((2 + 2 * j + 1 : Nat) : Int) from ((wr64' (by omega)).trans (by omega))) rfl) (hK_ _ _ ⟨qv_up hV (fun _ h => Option.some.inj h), hE⟩)⟩
          · have e1 : evl l_ (.tmp 1) = .pointer (some ⟨g5, 0, none⟩) := evl_of ((hel 1 (by decide)).trans rfl)
            have e48 : evl l_ (.tmp 48) = .int .i64 ((2 + 2 * j + 1 : Nat) : Int) := evl_of (hv_ 10 48 _ (by decide) rfl (hon 10 (by decide)))
            exact ⟨_, rfl, fun K_ hK_ => q_op _ (x_indexArr (sz := 1) (j := (2 + 2 * j + 1 : Nat)) rfl e1 e48 Try.underlying27 (by kernel_rfl) (by omega) (by first | rfl | (simp; done) | (simp <;> omega) | omega)) (hK_ _ _ ⟨qv_up hV (fun _ h => Option.some.inj h), hE⟩)⟩
          · have hE0 := hE
            rw [show bq_ 18 = false from (hoff 18 (by decide))] at hE0
            rw [show bq_ 16 = false from (hoff 16 (by decide))] at hE0
            rw [show bq_ 15 = false from (hoff 15 (by decide))] at hE0
            simp only [cond_true, cond_false] at hE0
            have HS := hE0
            have e49 : evl l_ (.tmp 49) = .pointer (some ⟨g5, (2 + 2 * j + 1 : Nat), none⟩) := evl_of (hv_ 11 49 _ (by decide) rfl (hon 11 (by decide)))
            exact ⟨_, rfl, fun K_ hK_ => q_op _ (x_load (.int .u8 ((q.map bv).getD (2 + 2 * j + 1 : Nat) 0)) rfl e49 (bkCell (HS.get (.tail _ (.tail _ (.tail _ (.head _))))) (2 + 2 * j + 1 : Nat) _ (nums_getD (by simp only [List.length_map, hq]; omega))) (by rfl)) (hK_ _ _ ⟨qv_up hV (fun _ h => Option.some.inj h), hE⟩)⟩
          · have e50 : evl l_ (.tmp 50) = .int .u8 ((q.map bv).getD (2 + 2 * j + 1 : Nat) 0) := evl_of (hv_ 12 50 _ (by decide) rfl (hon 12 (by decide)))
            exact ⟨_, rfl, fun K_ hK_ => q_op _ (x_conv (k := .u8) (m := ((q.map bv).getD (2 + 2 * j + 1 : Nat) 0)) .i64 ((bv (q.getD (2 + 2 * j + 1) 0))) rfl (by rw [Try.underlying5]; rfl) Try.underlying3 e50 (by rw [bv_getD]; exact wr64' (by have := bv_lo (q.getD (2 + 2 * j + 1) 0); have := bv_hi (q.getD (2 + 2 * j + 1) 0); omega))) (hK_ _ _ ⟨qv_up hV (fun _ h => Option.some.inj h), hE⟩)⟩
          · have e45 : evl l_ (.tmp 45) = .int .i64 (bv (q.getD (2 + 2 * j) 0)) := evl_of (hv_ 7 45 _ (by decide) rfl (hon 7 (by decide)))
            have e51 : evl l_ (.tmp 51) = .int .i64 (bv (q.getD (2 + 2 * j + 1) 0)) := evl_of (hv_ 13 51 _ (by decide) rfl (hon 13 (by decide)))
            exact ⟨_, rfl, fun K_ hK_ => q_op _ (x_build [.int .i64 (bv (q.getD (2 + 2 * j) 0)), .int .i64 (bv (q.getD (2 + 2 * j + 1) 0))] rfl (by show Try.prog.built 62 (Array.map (fun x : Nat × Operand => (x.1, evl l_ x.2)) #[(0, Operand.tmp 45), (1, Operand.tmp 51)]).toList = _; rw [show (Array.map (fun x : Nat × Operand => (x.1, evl l_ x.2)) #[(0, Operand.tmp 45), (1, Operand.tmp 51)]).toList = [(0, .int .i64 (bv (q.getD (2 + 2 * j) 0))), (1, .int .i64 (bv (q.getD (2 + 2 * j + 1) 0)))] from by simp only [List.map_toArray, List.map_cons, List.map_nil, e45, e51] <;> rfl]; kernel_rfl)) (hK_ _ _ ⟨qv_up hV (fun _ h => Option.some.inj h), hE⟩)⟩
          · have h52 : (fr l_).tmps[52]? = some (.agg ([.int .i64 (bv (q.getD (2 + 2 * j) 0)), .int .i64 (bv (q.getD (2 + 2 * j + 1) 0))] : List Value).toArray) := hv_ 14 52 _ (by decide) rfl (hon 14 (by decide))
            have hE0 := hE
            rw [show bq_ 18 = false from (hoff 18 (by decide))] at hE0
            rw [show bq_ 16 = false from (hoff 16 (by decide))] at hE0
            rw [show bq_ 15 = false from hb_] at hE0
            simp only [cond_true, cond_false] at hE0
            have HS := hE0
            have e52 : evl l_ (.tmp 52) = .agg ([.int .i64 (bv (q.getD (2 + 2 * j) 0)), .int .i64 (bv (q.getD (2 + 2 * j + 1) 0))] : List Value).toArray := evl_of h52
            refine ⟨_, rfl, fun K_ hK_ => wp_of_list rfl ?_⟩
            intro ops_
            refine St.wLit1 HS [.int .i64 (bv (q.getD (2 + 2 * j) 0)), .int .i64 (bv (q.getD (2 + 2 * j + 1) 0))] 2 (.agg [.int .i64 0, .int .i64 0].toArray) (.agg ([.int .i64 (bv (q.getD (2 + 2 * j) 0)), .int .i64 (bv (q.getD (2 + 2 * j + 1) 0))] : List Value).toArray) Try.underlying50 (by kernel_rfl) (by decide) e52 rfl rfl ?_
            clear HS
            intro g901501 w901502 hg901503 HS
            refine wpList_nil ?_
            refine norm_put (hK_ (.slice (some ⟨g901501, 0, none⟩) 1 1) _ ⟨qv_up hV (by intro _ h; cases h), ?_⟩)
            show cond (bq_ 18) _ _
            rw [show bq_ 18 = false from hoff 18 (by decide), cond_false]
            show cond (bq_ 16) _ _
            rw [show bq_ 16 = false from hoff 16 (by decide), cond_false]
            show cond true _ _
            rw [cond_true]
            exact ⟨g901501, rfl, (((((HS.front 4 rfl).front 4 rfl).front 4 rfl).front 4 rfl).front 4 rfl)⟩
          · have h39 : (fr l_).tmps[39]? = some (ve) := hv_ 1 39 _ (by decide) rfl (hon 1 (by decide))
            have h53 := hval (15, 53) (by decide) (hon 15 (by decide))
            have hE0 := hE
            rw [show bq_ 18 = false from (hoff 18 (by decide))] at hE0
            rw [show bq_ 16 = false from hb_] at hE0
            rw [show bq_ 15 = true from (hon 15 (by decide))] at hE0
            simp only [cond_true, cond_false] at hE0
            obtain ⟨g127, hv15, HS⟩ := hE0
            rw [hv15] at h53
            have e39 : evl l_ (.tmp 39) = ve := evl_of h39
            have e53 : evl l_ (.tmp 53) = .slice (some ⟨g127, 0, none⟩) 1 1 := evl_of h53
            refine ⟨_, rfl, fun K_ hK_ => wp_of_list rfl ?_⟩
            intro ops_
            replace HS := (HS.front 1 rfl)
            refine St.wAppend HS ((.agg #[.int .i64 0, .int .i64 0])) 16 Try.underlying50 (by kernel_rfl) rfl (by decide) (by decide) [((bv (q.getD (2 + 2 * j) 0)), (bv (q.getD (2 + 2 * j + 1) 0)))] _ _ _ e39 e53 (lit_reads (HS.get (.tail _ (.head _))) ((Reps.none _ _).snoc (p := ((bv (q.getD (2 + 2 * j) 0)), (bv (q.getD (2 + 2 * j + 1) 0)))) rfl rfl) (by simp)) (fun _ _ h => h) (by rw [eL_length]; omega) ?_
            clear HS
            intro v901601 w901602 HS
            refine wpList_nil ?_
            refine norm_put (hK_ (v901601) _ ⟨qv_up hV (by intro _ h; cases h), ?_⟩)
            show cond (bq_ 18) _ _
            rw [show bq_ 18 = false from hoff 18 (by decide), cond_false]
            show cond true _ _
            rw [cond_true]
            exact ⟨g127, v901601, hv15, rfl, (((((HS.front 4 rfl).front 4 rfl).front 4 rfl).front 4 rfl).front 4 rfl)⟩
          · have e4 : evl l_ (.tmp 4) = .pointer (some ⟨g15, 0, none⟩) := evl_of ((hel 4 (by decide)).trans rfl)
            exact ⟨_, rfl, fun K_ hK_ => q_op _ (x_field (j := 17) _ _ rfl e4 Try.underlying52 rfl (by rfl) rfl) (hK_ _ _ ⟨qv_up hV (fun _ h => Option.some.inj h), hE⟩)⟩
          · have h54 := hval (16, 54) (by decide) (hon 16 (by decide))
            have h55 : (fr l_).tmps[55]? = some (.pointer (some ⟨g15, 17, none⟩)) := hv_ 17 55 _ (by decide) rfl (hon 17 (by decide))
            have hE0 := hE
            rw [show bq_ 18 = false from hb_] at hE0
            rw [show bq_ 16 = true from (hon 16 (by decide))] at hE0
            simp only [cond_true, cond_false] at hE0
            obtain ⟨g127, v130, hv15, hv16, HS⟩ := hE0
            rw [hv16] at h54
            have e54 : evl l_ (.tmp 54) = v130 := evl_of h54
            have e55 : evl l_ (.tmp 55) = .pointer (some ⟨g15, 17, none⟩) := evl_of h55
            refine ⟨_, rfl, fun K_ hK_ => wp_of_list rfl ?_⟩
            intro ops_
            refine St.store (cs' := (Value.int .i64 (kN q) :: ((nums .u8 (zK.map bv)) ++ ([v130])))) (HS.front 2 rfl) (v130) e55 e54 (row_one (HS.get (.head _))) (by kernel_rfl) (by simp [List.length_map, nums_length, zK_len]) (by simp [List.set_append, List.length_map, nums_length, zK_len]) ?_
            clear HS
            intro w901801 HS
            refine wpList_nil ?_
            refine norm_none (hK_ undef _ ⟨qv_up hV (by intro _ h; cases h), ?_⟩)
            show cond true _ _
            rw [cond_true]
            exact ⟨g127, v130, hv15, hv16, (((((HS.front 4 rfl).front 4 rfl).front 4 rfl).front 4 rfl).front 4 rfl)⟩
        intro bq_ vq_ w_ hall hG
        obtain ⟨hV, hE⟩ := hG
        clear HS
        rw [show bq_ 18 = true from hall 18 (by decide)] at hE
        simp only [cond_true] at hE
        obtain ⟨g127, v130, hv15, hv16, HS⟩ := hE
        have hv0 := hV 0 _ rfl (hall 0 (by decide))
        have hv1 := hV 1 _ rfl (hall 1 (by decide))
        have hv2 := hV 2 _ rfl (hall 2 (by decide))
        have hv3 := hV 3 _ rfl (hall 3 (by decide))
        have hv4 := hV 4 _ rfl (hall 4 (by decide))
        have hv5 := hV 5 _ rfl (hall 5 (by decide))
        have hv6 := hV 6 _ rfl (hall 6 (by decide))
        have hv7 := hV 7 _ rfl (hall 7 (by decide))
        have hv8 := hV 8 _ rfl (hall 8 (by decide))
        have hv9 := hV 9 _ rfl (hall 9 (by decide))
        have hv10 := hV 10 _ rfl (hall 10 (by decide))
        have hv11 := hV 11 _ rfl (hall 11 (by decide))
        have hv12 := hV 12 _ rfl (hall 12 (by decide))
        have hv13 := hV 13 _ rfl (hall 13 (by decide))
        have hv14 := hV 14 _ rfl (hall 14 (by decide))
        have hv17 := hV 17 _ rfl (hall 17 (by decide))
        clear hV hall
        rw [putSel_fr]
        simp only [tells, List.map_cons, List.map_nil, setAll, List.set_cons_succ, List.set_cons_zero, hv0, hv1, hv2, hv3, hv4, hv5, hv6, hv7, hv8, hv9, hv10, hv11, hv12, hv13, hv14, hv15, hv16, hv17]
        clear hv0 hv1 hv2 hv3 hv4 hv5 hv6 hv7 hv8 hv9 hv10 hv11 hv12 hv13 hv14 hv15 hv16 hv17
        generalize w_ = w901802 at HS ⊢
        refine fr_at (l' := (.agg ((nums .u8 (q.map bv))).toArray :: .pointer (some ⟨g5, 0, none⟩) :: .pointer (some ⟨g8, 0, none⟩) :: .int .i64 0 :: .pointer (some ⟨g15, 0, none⟩) :: undef :: .int .i64 (j : Int) :: undef :: undef :: .pointer (some ⟨g5, 0, none⟩) :: .int .u8 ((q.map bv).getD 0 0) :: .int .i64 (kN q) :: nv8 (kN q) (nums .u8 (zK.map bv)) none 0 0 :: .pointer (some ⟨g15, 0, none⟩) :: .int .i64 (kN q) :: .bool false :: U8b8 (undef :: undef :: undef :: .int .i64 (j : Int) :: .pointer (some ⟨g5, 1, none⟩) :: .int .u8 ((q.map bv).getD 1 0) :: .int .i64 (bv (q.getD 1 0)) :: .bool true :: .bool true :: .int .i64 (j : Int) :: .bool true :: .bool true :: uq30.2.2.2.1 :: uq30.2.2.2.2.1 :: .pointer (some ⟨g15, 17, none⟩) :: ve :: .int .i64 (j : Int) :: .int .i64 ((2 * j : Nat) : Int) :: .int .i64 ((2 + 2 * j : Nat) : Int) :: .pointer (some ⟨g5, (2 + 2 * j : Nat), none⟩) :: .int .u8 ((q.map bv).getD (2 + 2 * j : Nat) 0) :: .int .i64 (bv (q.getD (2 + 2 * j) 0)) :: .int .i64 (j : Int) :: .int .i64 ((2 * j : Nat) : Int) :: .int .i64 ((2 + 2 * j + 1 : Nat) : Int) :: .pointer (some ⟨g5, (2 + 2 * j + 1 : Nat), none⟩) :: .int .u8 ((q.map bv).getD (2 + 2 * j + 1 : Nat) 0) :: .int .i64 (bv (q.getD (2 + 2 * j + 1) 0)) :: .agg ([.int .i64 (bv (q.getD (2 + 2 * j) 0)), .int .i64 (bv (q.getD (2 + 2 * j + 1) 0))] : List Value).toArray :: .slice (some ⟨g127, 0, none⟩) 1 1 :: v130 :: .pointer (some ⟨g15, 17, none⟩) :: U8b8 (U4b8 (undef :: undef :: []))))) rfl ?_
        refine hK124 _ _ ?_
        refine c_region (fun ops901804 hops901803 => ?_)
        clear hops901803
        refine p_run _ (x_move (.int .i64 (j : Int)) rfl rfl) rfl ?_
        refine p_run _ (x_arith (k := .i64) (m := (j : Int)) (n := 1) .add (((j + 1 : Nat) : Int)) rfl rfl rfl (show IntKind.i64.wrap ((j : Int) + 1) = ((j + 1 : Nat) : Int) from ((wr64' (by omega)).trans (by omega))) rfl) rfl ?_
        refine p_run _ (x_assign (.int .i64 ((j + 1 : Nat) : Int)) rfl rfl) rfl ?_
        refine wpList_nil ?_
        refine fr_at (l' := (.agg ((nums .u8 (q.map bv))).toArray :: .pointer (some ⟨g5, 0, none⟩) :: .pointer (some ⟨g8, 0, none⟩) :: .int .i64 0 :: .pointer (some ⟨g15, 0, none⟩) :: undef :: .int .i64 ((j + 1 : Nat) : Int) :: undef :: undef :: .pointer (some ⟨g5, 0, none⟩) :: .int .u8 ((q.map bv).getD 0 0) :: .int .i64 (kN q) :: nv8 (kN q) (nums .u8 (zK.map bv)) none 0 0 :: .pointer (some ⟨g15, 0, none⟩) :: .int .i64 (kN q) :: .bool false :: U8b8 (undef :: undef :: undef :: .int .i64 (j : Int) :: .pointer (some ⟨g5, 1, none⟩) :: .int .u8 ((q.map bv).getD 1 0) :: .int .i64 (bv (q.getD 1 0)) :: .bool true :: .bool true :: .int .i64 (j : Int) :: .bool true :: .bool true :: .int .i64 (j : Int) :: .int .i64 ((j + 1 : Nat) : Int) :: .pointer (some ⟨g15, 17, none⟩) :: ve :: .int .i64 (j : Int) :: .int .i64 ((2 * j : Nat) : Int) :: .int .i64 ((2 + 2 * j : Nat) : Int) :: .pointer (some ⟨g5, (2 + 2 * j : Nat), none⟩) :: .int .u8 ((q.map bv).getD (2 + 2 * j : Nat) 0) :: .int .i64 (bv (q.getD (2 + 2 * j) 0)) :: .int .i64 (j : Int) :: .int .i64 ((2 * j : Nat) : Int) :: .int .i64 ((2 + 2 * j + 1 : Nat) : Int) :: .pointer (some ⟨g5, (2 + 2 * j + 1 : Nat), none⟩) :: .int .u8 ((q.map bv).getD (2 + 2 * j + 1 : Nat) 0) :: .int .i64 (bv (q.getD (2 + 2 * j + 1) 0)) :: .agg ([.int .i64 (bv (q.getD (2 + 2 * j) 0)), .int .i64 (bv (q.getD (2 + 2 * j + 1) 0))] : List Value).toArray :: .slice (some ⟨g127, 0, none⟩) 1 1 :: v130 :: .pointer (some ⟨g15, 17, none⟩) :: U8b8 (U4b8 (undef :: undef :: []))))) rfl ?_
        rw [← eL_snoc] at HS
        refine hJ35 (j + 1, v130) _ _ ?_ ?_
        · show mN q - (j + 1) < mN q - j; omega
        · exact ⟨(.int .i64 (j : Int), .pointer (some ⟨g5, 1, none⟩), .int .u8 ((q.map bv).getD 1 0), .int .i64 (bv (q.getD 1 0)), .bool true, .bool true), (.int .i64 (j : Int), .bool true, .bool true, .int .i64 (j : Int), .int .i64 ((j + 1 : Nat) : Int), .pointer (some ⟨g15, 17, none⟩)), (ve, .int .i64 (j : Int), .int .i64 ((2 * j : Nat) : Int), .int .i64 ((2 + 2 * j : Nat) : Int), .pointer (some ⟨g5, (2 + 2 * j : Nat), none⟩), .int .u8 ((q.map bv).getD (2 + 2 * j : Nat) 0)), (.int .i64 (bv (q.getD (2 + 2 * j) 0)), .int .i64 (j : Int), .int .i64 ((2 * j : Nat) : Int), .int .i64 ((2 + 2 * j + 1 : Nat) : Int), .pointer (some ⟨g5, (2 + 2 * j + 1 : Nat), none⟩), .int .u8 ((q.map bv).getD (2 + 2 * j + 1 : Nat) 0)), (.int .i64 (bv (q.getD (2 + 2 * j + 1) 0)), .agg ([.int .i64 (bv (q.getD (2 + 2 * j) 0)), .int .i64 (bv (q.getD (2 + 2 * j + 1) 0))] : List Value).toArray, .slice (some ⟨g127, 0, none⟩) 1 1, v130, .pointer (some ⟨g15, 17, none⟩)), rfl, (((((HS.front 2 rfl).drop.front 3 rfl).front 3 rfl).front 2 rfl).front 3 rfl), (by omega)⟩
end Go.Proofs.Ytiokdpnhaemciaa
