/- The chapter's example. -/
import Derived.Test.YtiokdpnhaemciaaTlP
set_option linter.unusedVariables false
set_option linter.unusedSimpArgs false
namespace Go.Proofs.Ytiokdpnhaemciaa
open Go.RowKit Go.Proofs.YtiokdpnhaemciaaW.PrintWords Go.Proofs.YtiokdpnhaemciaaW.PrintLast Crc
section
variable {w0 W : World} {F : Nat → Prop} {L : List Res}
/-- The example's counts. -/
def aC : List UInt8 := zB.set 7 3
theorem aC_len : aC.length = 240 := by unfold aC; rw [List.length_set]; exact zB_len
theorem cmp_yes {a b : Int} (h : a = b) : cmpB .eql a b = true := by subst h; simp [cmpB]
theorem cmp_not {a b : Int} (h : ¬ a = b) : cmpB .eql a b = false := by simp [cmpB, h]
theorem tE_yes {g : UInt64} {q : List UInt8} (h : tlOk g q = true) : tlE g q = 0 := by unfold tlE; rw [h]; rfl
theorem tE_no {g : UInt64} {q : List UInt8} (h : tlOk g q = false) : tlE g q = 61 := by unfold tlE; rw [h]; rfl
theorem tC_yes {g : UInt64} {q : List UInt8} (h : tlOk g q = true) : tlC g q = bdB q := by unfold tlC; rw [h]; rfl
theorem tC_no {g : UInt64} {q : List UInt8} (h : tlOk g q = false) : tlC g q = zB := by unfold tlC; rw [h]; rfl
theorem eq_yes {a b : List UInt8} (h : a = b) : decide (a.map bv = b.map bv) = true := by rw [h]; exact decide_eq_true rfl
theorem back_open (g : UInt64) {c : List UInt8} (hc : c.length = 240) : tlC g (tlB g c) = c := (tC_yes (ok_page hc)).trans (bd_page hc)
theorem aC_open : tlC 5 (tlB 5 aC) = aC := back_open 5 aC_len
theorem aC_one : ((usN aC : Nat) : Int) = 1 := by kernel_rfl
attribute [irreducible] aC
theorem eq_map (a b : List UInt8) : decide (a.map bv = b.map bv) = decide (a = b) := by rw [decide_eq_decide]; exact map_bv_inj

set_option maxRecDepth 10000 in
set_option maxHeartbeats 1000000 in
theorem talive_any (HS : St w0 F W L) : Calls Try.prog 12 #[] W fun e w' => e = .returned (.bool true) ∧ St w0 F w' L := by
  refine c_enter Try.func12 rfl 36 rfl [undef, undef, undef, undef, undef, undef, undef, undef, undef, undef, undef, undef, undef, undef, undef, undef, undef, undef, undef, undef, undef, undef, undef, undef, undef, undef, undef, undef, undef, undef, undef, undef, undef, undef, undef, undef] rfl ?_
  refine wp_seq_k (fun K1 hK2 => ?_)
  refine c_region (fun ops4 hops3 => ?_)
  clear hops3
  refine p_run (l' := _) _ (x_assign (.bool false) rfl rfl) rfl ?_
  refine wpList_nil ?_
  refine fr_at (l' := [.bool false, undef, undef, undef, undef, undef, undef, undef, undef, undef, undef, undef, undef, undef, undef, undef, undef, undef, undef, undef, undef, undef, undef, undef, undef, undef, undef, undef, undef, undef, undef, undef, undef, undef, undef, undef]) rfl ?_
  refine hK2 _ _ ?_
  refine wp_seq_k (fun K5 hK6 => ?_)
  refine c_region (fun ops8 hops7 => ?_)
  clear hops7
  refine p_run (l' := _) _ (x_build (nums .u8 (aC.map bv)) rfl (by kernel_rfl)) rfl ?_
  refine St.wAlloc HS (cs := ((nums .u8 (zB.map bv)))) (.agg ((nums .u8 (zB.map bv))).toArray) (by kernel_rfl) rfl ?_
  clear HS
  intro g9 w10 hg11 HS
  refine St.stores (cs' := ((nums .u8 (aC.map bv)))) HS ((nums .u8 (aC.map bv))) 240 rfl rfl (nums_one _ _) (by kernel_rfl) (by simp [List.length_map, aC_len, nums_length]) (by simp [List.length_map, aC_len, nums_length, zB_len]) (lay_all _ _ (by simp [List.length_map, aC_len, nums_length, zB_len])) ?_
  clear HS
  intro w12 HS
  refine wpList_nil ?_
  refine fr_at (l' := [.bool false, .pointer (some ⟨g9, 0, none⟩), undef, undef, undef, undef, undef, .agg ((nums .u8 (aC.map bv))).toArray, undef, undef, undef, undef, undef, undef, undef, undef, undef, undef, undef, undef, undef, undef, undef, undef, undef, undef, undef, undef, undef, undef, undef, undef, undef, undef, undef, undef]) rfl ?_
  refine hK6 _ _ ?_
  refine wp_seq_k (fun K13 hK14 => ?_)
  refine c_region (fun ops16 hops15 => ?_)
  clear hops15
  refine p_run (l' := _) _ (x_loads ((nums .u8 (aC.map bv))) 240 rfl rfl (bkCells (HS.get (.head _)) 0 _ (whole _)) (by rfl) (by kernel_rfl) (by simp [List.length_map, aC_len, nums_length])) rfl ?_
  refine w_call [.int .u64 5, .agg ((nums .u8 (aC.map bv))).toArray] Try.func13 (by kernel_rfl) (by rfl) rfl ?_
  refine (tpage_any HS (5 : UInt64) aC aC_len).mono ?_
  clear HS
  rintro e w17 ⟨rfl, HS⟩
  refine ⟨_, rfl, ?_⟩
  refine St.wAlloc HS (cs := ((nums .u8 zpg))) (.agg ((nums .u8 zpg)).toArray) (by kernel_rfl) rfl ?_
  clear HS
  intro g18 w19 hg20 HS
  refine St.stores (cs' := ((nums .u8 ((tlB (5 : UInt64) aC).map bv)))) HS ((nums .u8 ((tlB (5 : UInt64) aC).map bv))) 256 rfl rfl (nums_one _ _) (by kernel_rfl) (by simp [(tlB_length (5 : UInt64) aC_len), List.length_map, nums_length]) (by simp [(tlB_length (5 : UInt64) aC_len), List.length_map, nums_length, zlen]) (lay_all _ _ (by simp [(tlB_length (5 : UInt64) aC_len), List.length_map, nums_length, zlen])) ?_
  clear HS
  intro w21 HS
  refine wpList_nil ?_
  refine fr_at (l' := [.bool false, .pointer (some ⟨g9, 0, none⟩), .pointer (some ⟨g18, 0, none⟩), undef, undef, undef, undef, .agg ((nums .u8 (aC.map bv))).toArray, .agg ((nums .u8 (aC.map bv))).toArray, .agg ((nums .u8 ((tlB (5 : UInt64) aC).map bv))).toArray, undef, undef, undef, undef, undef, undef, undef, undef, undef, undef, undef, undef, undef, undef, undef, undef, undef, undef, undef, undef, undef, undef, undef, undef, undef, undef]) rfl ?_
  refine hK14 _ _ ?_
  refine wp_seq_k (fun K22 hK23 => ?_)
  refine c_region (fun ops25 hops24 => ?_)
  clear hops24
  refine p_run (l' := _) _ (x_loads ((nums .u8 ((tlB (5 : UInt64) aC).map bv))) 256 rfl rfl (bkCells (HS.get (.head _)) 0 _ (whole _)) (by rfl) (by kernel_rfl) (by simp [(tlB_length (5 : UInt64) aC_len), List.length_map, nums_length])) rfl ?_
  refine w_call [.agg ((nums .u8 ((tlB (5 : UInt64) aC).map bv))).toArray, .int .u64 5] Try.func14 (by kernel_rfl) (by rfl) rfl ?_
  refine (topen_any HS (5 : UInt64) (tlB (5 : UInt64) aC) (tlB_length (5 : UInt64) aC_len)).mono ?_
  clear HS
  rintro e w26 ⟨rfl, HS⟩
  refine ⟨_, rfl, ?_⟩
  refine p_run (l' := _) _ (x_move (.tuple [.agg ((nums .u8 ((tlC (5 : UInt64) (tlB (5 : UInt64) aC)).map bv))).toArray, .int .i64 (tlE (5 : UInt64) (tlB (5 : UInt64) aC))].toArray) rfl rfl) rfl ?_
  refine p_run (l' := [.bool false, .pointer (some ⟨g9, 0, none⟩), .pointer (some ⟨g18, 0, none⟩), undef, undef, undef, undef, .agg ((nums .u8 (aC.map bv))).toArray, .agg ((nums .u8 (aC.map bv))).toArray, .agg ((nums .u8 ((tlB (5 : UInt64) aC).map bv))).toArray, .tuple [.agg ((nums .u8 ((tlC (5 : UInt64) (tlB (5 : UInt64) aC)).map bv))).toArray, .int .i64 (tlE (5 : UInt64) (tlB (5 : UInt64) aC))].toArray, .agg ((nums .u8 ((tlB (5 : UInt64) aC).map bv))).toArray, .tuple [.agg ((nums .u8 ((tlC (5 : UInt64) (tlB (5 : UInt64) aC)).map bv))).toArray, .int .i64 (tlE (5 : UInt64) (tlB (5 : UInt64) aC))].toArray, .agg ((nums .u8 ((tlC (5 : UInt64) (tlB (5 : UInt64) aC)).map bv))).toArray, undef, undef, undef, undef, undef, undef, undef, undef, undef, undef, undef, undef, undef, undef, undef, undef, undef, undef, undef, undef, undef, undef]) _ (x_extract (vs := [.agg ((nums .u8 ((tlC (5 : UInt64) (tlB (5 : UInt64) aC)).map bv))).toArray, .int .i64 (tlE (5 : UInt64) (tlB (5 : UInt64) aC))]) 0 (.agg ((nums .u8 ((tlC (5 : UInt64) (tlB (5 : UInt64) aC)).map bv))).toArray) rfl rfl rfl) rfl ?_
  refine p_run (l' := _) _ (x_extract (vs := [.agg ((nums .u8 ((tlC (5 : UInt64) (tlB (5 : UInt64) aC)).map bv))).toArray, .int .i64 (tlE (5 : UInt64) (tlB (5 : UInt64) aC))]) 1 (.int .i64 (tlE (5 : UInt64) (tlB (5 : UInt64) aC))) rfl rfl rfl) rfl ?_
  refine St.wAlloc HS (cs := ((nums .u8 (zB.map bv)))) (.agg ((nums .u8 (zB.map bv))).toArray) (by kernel_rfl) rfl ?_
  clear HS
  intro g27 w28 hg29 HS
  refine St.stores (cs' := ((nums .u8 ((tlC (5 : UInt64) (tlB (5 : UInt64) aC)).map bv)))) HS ((nums .u8 ((tlC (5 : UInt64) (tlB (5 : UInt64) aC)).map bv))) 240 rfl rfl (nums_one _ _) (by kernel_rfl) (by simp [(tlC_len (5 : UInt64) (tlB_length (5 : UInt64) aC_len)), List.length_map, nums_length]) (by simp [(tlC_len (5 : UInt64) (tlB_length (5 : UInt64) aC_len)), List.length_map, nums_length, zB_len]) (lay_all _ _ (by simp [(tlC_len (5 : UInt64) (tlB_length (5 : UInt64) aC_len)), List.length_map, nums_length, zB_len])) ?_
  clear HS
  intro w30 HS
  refine p_run (l' := _) _ (x_assign (.int .i64 (tlE (5 : UInt64) (tlB (5 : UInt64) aC))) rfl rfl) rfl ?_
  refine wpList_nil ?_
  refine fr_at (l' := [.bool false, .pointer (some ⟨g9, 0, none⟩), .pointer (some ⟨g18, 0, none⟩), .pointer (some ⟨g27, 0, none⟩), .int .i64 (tlE (5 : UInt64) (tlB (5 : UInt64) aC)), undef, undef, .agg ((nums .u8 (aC.map bv))).toArray, .agg ((nums .u8 (aC.map bv))).toArray, .agg ((nums .u8 ((tlB (5 : UInt64) aC).map bv))).toArray, .tuple [.agg ((nums .u8 ((tlC (5 : UInt64) (tlB (5 : UInt64) aC)).map bv))).toArray, .int .i64 (tlE (5 : UInt64) (tlB (5 : UInt64) aC))].toArray, .agg ((nums .u8 ((tlB (5 : UInt64) aC).map bv))).toArray, .tuple [.agg ((nums .u8 ((tlC (5 : UInt64) (tlB (5 : UInt64) aC)).map bv))).toArray, .int .i64 (tlE (5 : UInt64) (tlB (5 : UInt64) aC))].toArray, .agg ((nums .u8 ((tlC (5 : UInt64) (tlB (5 : UInt64) aC)).map bv))).toArray, .int .i64 (tlE (5 : UInt64) (tlB (5 : UInt64) aC)), undef, undef, undef, undef, undef, undef, undef, undef, undef, undef, undef, undef, undef, undef, undef, undef, undef, undef, undef, undef, undef]) rfl ?_
  refine hK23 _ _ ?_
  refine wp_seq_k (fun K31 hK32 => ?_)
  refine c_region (fun ops34 hops33 => ?_)
  clear hops33
  refine p_run (l' := _) _ (x_loads ((nums .u8 ((tlB (5 : UInt64) aC).map bv))) 256 rfl rfl (bkCells (HS.get (.tail _ (.head _))) 0 _ (whole _)) (by rfl) (by kernel_rfl) (by simp [(tlB_length (5 : UInt64) aC_len), List.length_map, nums_length])) rfl ?_
  refine w_call [.agg ((nums .u8 ((tlB (5 : UInt64) aC).map bv))).toArray, .int .u64 7] Try.func14 (by kernel_rfl) (by rfl) rfl ?_
  refine (topen_any HS (7 : UInt64) (tlB (5 : UInt64) aC) (tlB_length (5 : UInt64) aC_len)).mono ?_
  clear HS
  rintro e w35 ⟨rfl, HS⟩
  refine ⟨_, rfl, ?_⟩
  refine p_run (l' := _) _ (x_move (.tuple [.agg ((nums .u8 ((tlC (7 : UInt64) (tlB (5 : UInt64) aC)).map bv))).toArray, .int .i64 (tlE (7 : UInt64) (tlB (5 : UInt64) aC))].toArray) rfl rfl) rfl ?_
  refine p_run (l' := [.bool false, .pointer (some ⟨g9, 0, none⟩), .pointer (some ⟨g18, 0, none⟩), .pointer (some ⟨g27, 0, none⟩), .int .i64 (tlE (5 : UInt64) (tlB (5 : UInt64) aC)), undef, undef, .agg ((nums .u8 (aC.map bv))).toArray, .agg ((nums .u8 (aC.map bv))).toArray, .agg ((nums .u8 ((tlB (5 : UInt64) aC).map bv))).toArray, .tuple [.agg ((nums .u8 ((tlC (5 : UInt64) (tlB (5 : UInt64) aC)).map bv))).toArray, .int .i64 (tlE (5 : UInt64) (tlB (5 : UInt64) aC))].toArray, .agg ((nums .u8 ((tlB (5 : UInt64) aC).map bv))).toArray, .tuple [.agg ((nums .u8 ((tlC (5 : UInt64) (tlB (5 : UInt64) aC)).map bv))).toArray, .int .i64 (tlE (5 : UInt64) (tlB (5 : UInt64) aC))].toArray, .agg ((nums .u8 ((tlC (5 : UInt64) (tlB (5 : UInt64) aC)).map bv))).toArray, .int .i64 (tlE (5 : UInt64) (tlB (5 : UInt64) aC)), .tuple [.agg ((nums .u8 ((tlC (7 : UInt64) (tlB (5 : UInt64) aC)).map bv))).toArray, .int .i64 (tlE (7 : UInt64) (tlB (5 : UInt64) aC))].toArray, .agg ((nums .u8 ((tlB (5 : UInt64) aC).map bv))).toArray, .tuple [.agg ((nums .u8 ((tlC (7 : UInt64) (tlB (5 : UInt64) aC)).map bv))).toArray, .int .i64 (tlE (7 : UInt64) (tlB (5 : UInt64) aC))].toArray, .agg ((nums .u8 ((tlC (7 : UInt64) (tlB (5 : UInt64) aC)).map bv))).toArray, undef, undef, undef, undef, undef, undef, undef, undef, undef, undef, undef, undef, undef, undef, undef, undef, undef]) _ (x_extract (vs := [.agg ((nums .u8 ((tlC (7 : UInt64) (tlB (5 : UInt64) aC)).map bv))).toArray, .int .i64 (tlE (7 : UInt64) (tlB (5 : UInt64) aC))]) 0 (.agg ((nums .u8 ((tlC (7 : UInt64) (tlB (5 : UInt64) aC)).map bv))).toArray) rfl rfl rfl) rfl ?_
  refine p_run (l' := _) _ (x_extract (vs := [.agg ((nums .u8 ((tlC (7 : UInt64) (tlB (5 : UInt64) aC)).map bv))).toArray, .int .i64 (tlE (7 : UInt64) (tlB (5 : UInt64) aC))]) 1 (.int .i64 (tlE (7 : UInt64) (tlB (5 : UInt64) aC))) rfl rfl rfl) rfl ?_
  refine St.wAlloc HS (cs := ((nums .u8 (zB.map bv)))) (.agg ((nums .u8 (zB.map bv))).toArray) (by kernel_rfl) rfl ?_
  clear HS
  intro g36 w37 hg38 HS
  refine St.stores (cs' := ((nums .u8 ((tlC (7 : UInt64) (tlB (5 : UInt64) aC)).map bv)))) HS ((nums .u8 ((tlC (7 : UInt64) (tlB (5 : UInt64) aC)).map bv))) 240 rfl rfl (nums_one _ _) (by kernel_rfl) (by simp [(tlC_len (7 : UInt64) (tlB_length (5 : UInt64) aC_len)), List.length_map, nums_length]) (by simp [(tlC_len (7 : UInt64) (tlB_length (5 : UInt64) aC_len)), List.length_map, nums_length, zB_len]) (lay_all _ _ (by simp [(tlC_len (7 : UInt64) (tlB_length (5 : UInt64) aC_len)), List.length_map, nums_length, zB_len])) ?_
  clear HS
  intro w39 HS
  refine p_run (l' := _) _ (x_assign (.int .i64 (tlE (7 : UInt64) (tlB (5 : UInt64) aC))) rfl rfl) rfl ?_
  refine wpList_nil ?_
  refine fr_at (l' := [.bool false, .pointer (some ⟨g9, 0, none⟩), .pointer (some ⟨g18, 0, none⟩), .pointer (some ⟨g27, 0, none⟩), .int .i64 (tlE (5 : UInt64) (tlB (5 : UInt64) aC)), .pointer (some ⟨g36, 0, none⟩), .int .i64 (tlE (7 : UInt64) (tlB (5 : UInt64) aC)), .agg ((nums .u8 (aC.map bv))).toArray, .agg ((nums .u8 (aC.map bv))).toArray, .agg ((nums .u8 ((tlB (5 : UInt64) aC).map bv))).toArray, .tuple [.agg ((nums .u8 ((tlC (5 : UInt64) (tlB (5 : UInt64) aC)).map bv))).toArray, .int .i64 (tlE (5 : UInt64) (tlB (5 : UInt64) aC))].toArray, .agg ((nums .u8 ((tlB (5 : UInt64) aC).map bv))).toArray, .tuple [.agg ((nums .u8 ((tlC (5 : UInt64) (tlB (5 : UInt64) aC)).map bv))).toArray, .int .i64 (tlE (5 : UInt64) (tlB (5 : UInt64) aC))].toArray, .agg ((nums .u8 ((tlC (5 : UInt64) (tlB (5 : UInt64) aC)).map bv))).toArray, .int .i64 (tlE (5 : UInt64) (tlB (5 : UInt64) aC)), .tuple [.agg ((nums .u8 ((tlC (7 : UInt64) (tlB (5 : UInt64) aC)).map bv))).toArray, .int .i64 (tlE (7 : UInt64) (tlB (5 : UInt64) aC))].toArray, .agg ((nums .u8 ((tlB (5 : UInt64) aC).map bv))).toArray, .tuple [.agg ((nums .u8 ((tlC (7 : UInt64) (tlB (5 : UInt64) aC)).map bv))).toArray, .int .i64 (tlE (7 : UInt64) (tlB (5 : UInt64) aC))].toArray, .agg ((nums .u8 ((tlC (7 : UInt64) (tlB (5 : UInt64) aC)).map bv))).toArray, .int .i64 (tlE (7 : UInt64) (tlB (5 : UInt64) aC)), undef, undef, undef, undef, undef, undef, undef, undef, undef, undef, undef, undef, undef, undef, undef, undef]) rfl ?_
  refine hK32 _ _ ?_
  refine wp_seq_k (fun K40 hK41 => ?_)
  refine c_region (fun ops43 hops42 => ?_)
  refine p_run (l' := _) _ (x_move (.int .i64 (tlE (5 : UInt64) (tlB (5 : UInt64) aC))) rfl rfl) rfl ?_
  refine p_run (l' := _) _ (x_cmp (k := .i64) (m := (tlE (5 : UInt64) (tlB (5 : UInt64) aC))) (n := 0) .eql true rfl rfl rfl (cmp_yes (tE_yes (ok_page aC_len))) rfl) rfl ?_
  refine p_run (l' := _) _ (x_move (.bool true) rfl rfl) rfl ?_
  refine p_on rfl (by rw [hops42]; rfl) ?_
  refine p_run (l' := [.bool false, .pointer (some ⟨g9, 0, none⟩), .pointer (some ⟨g18, 0, none⟩), .pointer (some ⟨g27, 0, none⟩), .int .i64 (tlE (5 : UInt64) (tlB (5 : UInt64) aC)), .pointer (some ⟨g36, 0, none⟩), .int .i64 (tlE (7 : UInt64) (tlB (5 : UInt64) aC)), .agg ((nums .u8 (aC.map bv))).toArray, .agg ((nums .u8 (aC.map bv))).toArray, .agg ((nums .u8 ((tlB (5 : UInt64) aC).map bv))).toArray, .tuple [.agg ((nums .u8 ((tlC (5 : UInt64) (tlB (5 : UInt64) aC)).map bv))).toArray, .int .i64 (tlE (5 : UInt64) (tlB (5 : UInt64) aC))].toArray, .agg ((nums .u8 ((tlB (5 : UInt64) aC).map bv))).toArray, .tuple [.agg ((nums .u8 ((tlC (5 : UInt64) (tlB (5 : UInt64) aC)).map bv))).toArray, .int .i64 (tlE (5 : UInt64) (tlB (5 : UInt64) aC))].toArray, .agg ((nums .u8 ((tlC (5 : UInt64) (tlB (5 : UInt64) aC)).map bv))).toArray, .int .i64 (tlE (5 : UInt64) (tlB (5 : UInt64) aC)), .tuple [.agg ((nums .u8 ((tlC (7 : UInt64) (tlB (5 : UInt64) aC)).map bv))).toArray, .int .i64 (tlE (7 : UInt64) (tlB (5 : UInt64) aC))].toArray, .agg ((nums .u8 ((tlB (5 : UInt64) aC).map bv))).toArray, .tuple [.agg ((nums .u8 ((tlC (7 : UInt64) (tlB (5 : UInt64) aC)).map bv))).toArray, .int .i64 (tlE (7 : UInt64) (tlB (5 : UInt64) aC))].toArray, .agg ((nums .u8 ((tlC (7 : UInt64) (tlB (5 : UInt64) aC)).map bv))).toArray, .int .i64 (tlE (7 : UInt64) (tlB (5 : UInt64) aC)), .int .i64 (tlE (5 : UInt64) (tlB (5 : UInt64) aC)), .bool true, .bool true, .agg ((nums .u8 ((tlC (5 : UInt64) (tlB (5 : UInt64) aC)).map bv))).toArray, undef, undef, undef, undef, undef, undef, undef, undef, undef, undef, undef, undef]) _ (x_loads ((nums .u8 ((tlC (5 : UInt64) (tlB (5 : UInt64) aC)).map bv))) 240 rfl rfl (bkCells (HS.get (.tail _ (.head _))) 0 _ (whole _)) (by rfl) (by kernel_rfl) (by simp [(tlC_len (5 : UInt64) (tlB_length (5 : UInt64) aC_len)), List.length_map, nums_length])) rfl ?_
  refine p_on rfl (by rw [hops42]; rfl) ?_
  refine p_run (l' := _) _ (x_loads ((nums .u8 (aC.map bv))) 240 rfl rfl (bkCells (HS.get (.tail _ (.tail _ (.tail _ (.head _))))) 0 _ (whole _)) (by rfl) (by kernel_rfl) (by simp [List.length_map, aC_len, nums_length])) rfl ?_
  refine p_on rfl (by rw [hops42]; rfl) ?_
  refine p_run (l' := _) _ (x_eq .eql (.agg ((nums .u8 ((tlC (5 : UInt64) (tlB (5 : UInt64) aC)).map bv))).toArray) (.agg ((nums .u8 (aC.map bv))).toArray) (decide (((tlC (5 : UInt64) (tlB (5 : UInt64) aC)).map bv) = (aC.map bv))) true rfl rfl rfl (equal_nums Try.underlying29 Try.underlying5 (by kernel_rfl) (by kernel_rfl) _ _ (by simp [List.length_map, (tlC_len (5 : UInt64) (tlB_length (5 : UInt64) aC_len))]) (by simp [List.length_map, aC_len])) (eq_yes aC_open) rfl (guard_agg (by kernel_rfl)) (guard_agg (by kernel_rfl))) rfl ?_
  refine p_run (l' := _) _ (x_pick true (.bool true) (.bool false) (.bool true) rfl rfl rfl rfl rfl) rfl ?_
  refine p_run (l' := [.bool false, .pointer (some ⟨g9, 0, none⟩), .pointer (some ⟨g18, 0, none⟩), .pointer (some ⟨g27, 0, none⟩), .int .i64 (tlE (5 : UInt64) (tlB (5 : UInt64) aC)), .pointer (some ⟨g36, 0, none⟩), .int .i64 (tlE (7 : UInt64) (tlB (5 : UInt64) aC)), .agg ((nums .u8 (aC.map bv))).toArray, .agg ((nums .u8 (aC.map bv))).toArray, .agg ((nums .u8 ((tlB (5 : UInt64) aC).map bv))).toArray, .tuple [.agg ((nums .u8 ((tlC (5 : UInt64) (tlB (5 : UInt64) aC)).map bv))).toArray, .int .i64 (tlE (5 : UInt64) (tlB (5 : UInt64) aC))].toArray, .agg ((nums .u8 ((tlB (5 : UInt64) aC).map bv))).toArray, .tuple [.agg ((nums .u8 ((tlC (5 : UInt64) (tlB (5 : UInt64) aC)).map bv))).toArray, .int .i64 (tlE (5 : UInt64) (tlB (5 : UInt64) aC))].toArray, .agg ((nums .u8 ((tlC (5 : UInt64) (tlB (5 : UInt64) aC)).map bv))).toArray, .int .i64 (tlE (5 : UInt64) (tlB (5 : UInt64) aC)), .tuple [.agg ((nums .u8 ((tlC (7 : UInt64) (tlB (5 : UInt64) aC)).map bv))).toArray, .int .i64 (tlE (7 : UInt64) (tlB (5 : UInt64) aC))].toArray, .agg ((nums .u8 ((tlB (5 : UInt64) aC).map bv))).toArray, .tuple [.agg ((nums .u8 ((tlC (7 : UInt64) (tlB (5 : UInt64) aC)).map bv))).toArray, .int .i64 (tlE (7 : UInt64) (tlB (5 : UInt64) aC))].toArray, .agg ((nums .u8 ((tlC (7 : UInt64) (tlB (5 : UInt64) aC)).map bv))).toArray, .int .i64 (tlE (7 : UInt64) (tlB (5 : UInt64) aC)), .int .i64 (tlE (5 : UInt64) (tlB (5 : UInt64) aC)), .bool true, .bool true, .agg ((nums .u8 ((tlC (5 : UInt64) (tlB (5 : UInt64) aC)).map bv))).toArray, .agg ((nums .u8 (aC.map bv))).toArray, .bool true, .bool true, .bool true, undef, undef, undef, undef, undef, undef, undef, undef]) _ (x_move (.bool true) rfl rfl) rfl ?_
  refine p_on rfl (by rw [hops42]; rfl) ?_
  refine p_run (l' := _) _ (x_move (.int .i64 (tlE (7 : UInt64) (tlB (5 : UInt64) aC))) rfl rfl) rfl ?_
  refine p_on rfl (by rw [hops42]; rfl) ?_
  refine p_run (l' := _) _ (x_cmp (k := .i64) (m := (tlE (7 : UInt64) (tlB (5 : UInt64) aC))) (n := 61) .eql true rfl rfl rfl (cmp_yes (tE_no (ok_other (by decide) aC))) rfl) rfl ?_
  refine p_run (l' := _) _ (x_pick true (.bool true) (.bool false) (.bool true) rfl rfl rfl rfl rfl) rfl ?_
  refine p_run (l' := [.bool false, .pointer (some ⟨g9, 0, none⟩), .pointer (some ⟨g18, 0, none⟩), .pointer (some ⟨g27, 0, none⟩), .int .i64 (tlE (5 : UInt64) (tlB (5 : UInt64) aC)), .pointer (some ⟨g36, 0, none⟩), .int .i64 (tlE (7 : UInt64) (tlB (5 : UInt64) aC)), .agg ((nums .u8 (aC.map bv))).toArray, .agg ((nums .u8 (aC.map bv))).toArray, .agg ((nums .u8 ((tlB (5 : UInt64) aC).map bv))).toArray, .tuple [.agg ((nums .u8 ((tlC (5 : UInt64) (tlB (5 : UInt64) aC)).map bv))).toArray, .int .i64 (tlE (5 : UInt64) (tlB (5 : UInt64) aC))].toArray, .agg ((nums .u8 ((tlB (5 : UInt64) aC).map bv))).toArray, .tuple [.agg ((nums .u8 ((tlC (5 : UInt64) (tlB (5 : UInt64) aC)).map bv))).toArray, .int .i64 (tlE (5 : UInt64) (tlB (5 : UInt64) aC))].toArray, .agg ((nums .u8 ((tlC (5 : UInt64) (tlB (5 : UInt64) aC)).map bv))).toArray, .int .i64 (tlE (5 : UInt64) (tlB (5 : UInt64) aC)), .tuple [.agg ((nums .u8 ((tlC (7 : UInt64) (tlB (5 : UInt64) aC)).map bv))).toArray, .int .i64 (tlE (7 : UInt64) (tlB (5 : UInt64) aC))].toArray, .agg ((nums .u8 ((tlB (5 : UInt64) aC).map bv))).toArray, .tuple [.agg ((nums .u8 ((tlC (7 : UInt64) (tlB (5 : UInt64) aC)).map bv))).toArray, .int .i64 (tlE (7 : UInt64) (tlB (5 : UInt64) aC))].toArray, .agg ((nums .u8 ((tlC (7 : UInt64) (tlB (5 : UInt64) aC)).map bv))).toArray, .int .i64 (tlE (7 : UInt64) (tlB (5 : UInt64) aC)), .int .i64 (tlE (5 : UInt64) (tlB (5 : UInt64) aC)), .bool true, .bool true, .agg ((nums .u8 ((tlC (5 : UInt64) (tlB (5 : UInt64) aC)).map bv))).toArray, .agg ((nums .u8 (aC.map bv))).toArray, .bool true, .bool true, .bool true, .int .i64 (tlE (7 : UInt64) (tlB (5 : UInt64) aC)), .bool true, .bool true, .bool true, undef, undef, undef, undef]) _ (x_move (.bool true) rfl rfl) rfl ?_
  refine p_on rfl (by rw [hops42]; rfl) ?_
  refine p_run (l' := _) _ (x_loads ((nums .u8 (aC.map bv))) 240 rfl rfl (bkCells (HS.get (.tail _ (.tail _ (.tail _ (.head _))))) 0 _ (whole _)) (by rfl) (by kernel_rfl) (by simp [List.length_map, aC_len, nums_length])) rfl ?_
  refine p_on rfl (by rw [hops42]; rfl) ?_
  refine w_call [.agg ((nums .u8 (aC.map bv))).toArray] Try.func15 (by kernel_rfl) (by rfl) rfl ?_
  refine (tused_any HS aC aC_len).mono ?_
  clear HS
  rintro e w44 ⟨rfl, HS⟩
  refine ⟨_, rfl, ?_⟩
  refine p_on rfl (by rw [hops42]; rfl) ?_
  refine p_run (l' := _) _ (x_cmp (k := .i64) (m := (usN aC : Int)) (n := 1) .eql true rfl rfl rfl (cmp_yes aC_one) rfl) rfl ?_
  refine p_run (l' := [.bool false, .pointer (some ⟨g9, 0, none⟩), .pointer (some ⟨g18, 0, none⟩), .pointer (some ⟨g27, 0, none⟩), .int .i64 (tlE (5 : UInt64) (tlB (5 : UInt64) aC)), .pointer (some ⟨g36, 0, none⟩), .int .i64 (tlE (7 : UInt64) (tlB (5 : UInt64) aC)), .agg ((nums .u8 (aC.map bv))).toArray, .agg ((nums .u8 (aC.map bv))).toArray, .agg ((nums .u8 ((tlB (5 : UInt64) aC).map bv))).toArray, .tuple [.agg ((nums .u8 ((tlC (5 : UInt64) (tlB (5 : UInt64) aC)).map bv))).toArray, .int .i64 (tlE (5 : UInt64) (tlB (5 : UInt64) aC))].toArray, .agg ((nums .u8 ((tlB (5 : UInt64) aC).map bv))).toArray, .tuple [.agg ((nums .u8 ((tlC (5 : UInt64) (tlB (5 : UInt64) aC)).map bv))).toArray, .int .i64 (tlE (5 : UInt64) (tlB (5 : UInt64) aC))].toArray, .agg ((nums .u8 ((tlC (5 : UInt64) (tlB (5 : UInt64) aC)).map bv))).toArray, .int .i64 (tlE (5 : UInt64) (tlB (5 : UInt64) aC)), .tuple [.agg ((nums .u8 ((tlC (7 : UInt64) (tlB (5 : UInt64) aC)).map bv))).toArray, .int .i64 (tlE (7 : UInt64) (tlB (5 : UInt64) aC))].toArray, .agg ((nums .u8 ((tlB (5 : UInt64) aC).map bv))).toArray, .tuple [.agg ((nums .u8 ((tlC (7 : UInt64) (tlB (5 : UInt64) aC)).map bv))).toArray, .int .i64 (tlE (7 : UInt64) (tlB (5 : UInt64) aC))].toArray, .agg ((nums .u8 ((tlC (7 : UInt64) (tlB (5 : UInt64) aC)).map bv))).toArray, .int .i64 (tlE (7 : UInt64) (tlB (5 : UInt64) aC)), .int .i64 (tlE (5 : UInt64) (tlB (5 : UInt64) aC)), .bool true, .bool true, .agg ((nums .u8 ((tlC (5 : UInt64) (tlB (5 : UInt64) aC)).map bv))).toArray, .agg ((nums .u8 (aC.map bv))).toArray, .bool true, .bool true, .bool true, .int .i64 (tlE (7 : UInt64) (tlB (5 : UInt64) aC)), .bool true, .bool true, .bool true, .agg ((nums .u8 (aC.map bv))).toArray, .int .i64 (usN aC : Int), .bool true, .bool true]) _ (x_pick true (.bool true) (.bool false) (.bool true) rfl rfl rfl rfl rfl) rfl ?_
  refine p_run (l' := _) _ (x_assign (.bool true) rfl rfl) rfl ?_
  clear hops42
  refine wpList_nil ?_
  refine fr_at (l' := [.bool true, .pointer (some ⟨g9, 0, none⟩), .pointer (some ⟨g18, 0, none⟩), .pointer (some ⟨g27, 0, none⟩), .int .i64 (tlE (5 : UInt64) (tlB (5 : UInt64) aC)), .pointer (some ⟨g36, 0, none⟩), .int .i64 (tlE (7 : UInt64) (tlB (5 : UInt64) aC)), .agg ((nums .u8 (aC.map bv))).toArray, .agg ((nums .u8 (aC.map bv))).toArray, .agg ((nums .u8 ((tlB (5 : UInt64) aC).map bv))).toArray, .tuple [.agg ((nums .u8 ((tlC (5 : UInt64) (tlB (5 : UInt64) aC)).map bv))).toArray, .int .i64 (tlE (5 : UInt64) (tlB (5 : UInt64) aC))].toArray, .agg ((nums .u8 ((tlB (5 : UInt64) aC).map bv))).toArray, .tuple [.agg ((nums .u8 ((tlC (5 : UInt64) (tlB (5 : UInt64) aC)).map bv))).toArray, .int .i64 (tlE (5 : UInt64) (tlB (5 : UInt64) aC))].toArray, .agg ((nums .u8 ((tlC (5 : UInt64) (tlB (5 : UInt64) aC)).map bv))).toArray, .int .i64 (tlE (5 : UInt64) (tlB (5 : UInt64) aC)), .tuple [.agg ((nums .u8 ((tlC (7 : UInt64) (tlB (5 : UInt64) aC)).map bv))).toArray, .int .i64 (tlE (7 : UInt64) (tlB (5 : UInt64) aC))].toArray, .agg ((nums .u8 ((tlB (5 : UInt64) aC).map bv))).toArray, .tuple [.agg ((nums .u8 ((tlC (7 : UInt64) (tlB (5 : UInt64) aC)).map bv))).toArray, .int .i64 (tlE (7 : UInt64) (tlB (5 : UInt64) aC))].toArray, .agg ((nums .u8 ((tlC (7 : UInt64) (tlB (5 : UInt64) aC)).map bv))).toArray, .int .i64 (tlE (7 : UInt64) (tlB (5 : UInt64) aC)), .int .i64 (tlE (5 : UInt64) (tlB (5 : UInt64) aC)), .bool true, .bool true, .agg ((nums .u8 ((tlC (5 : UInt64) (tlB (5 : UInt64) aC)).map bv))).toArray, .agg ((nums .u8 (aC.map bv))).toArray, .bool true, .bool true, .bool true, .int .i64 (tlE (7 : UInt64) (tlB (5 : UInt64) aC)), .bool true, .bool true, .bool true, .agg ((nums .u8 (aC.map bv))).toArray, .int .i64 (usN aC : Int), .bool true, .bool true]) rfl ?_
  refine hK41 _ _ ?_
  refine wp_ret ?_
  try simp only [Exit.inBlock, Exit.then]
  refine c_ret (.bool true) (r_tmp rfl rfl) ?_
  exact ⟨rfl, HS.drop.drop.drop.drop⟩
end
end Go.Proofs.Ytiokdpnhaemciaa
