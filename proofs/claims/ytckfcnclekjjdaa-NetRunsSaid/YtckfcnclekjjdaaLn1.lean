/- netAlive, NetNames. -/
import Derived.Test.YtckfcnclekjjdaaNt3
import Derived.Test.YtckfcnclekjjdaaWkS
set_option linter.unusedVariables false
set_option linter.unusedSimpArgs false
namespace Go.Proofs.Ytckfcnclekjjdaa
open Go.RowKit Go.Proofs.YtckfcnclekjjdaaW.PrintWords Go.Proofs.YtckfcnclekjjdaaW.PrintLast Crc
section
variable {w0 W : World} {F : Nat → Prop} {L : List Res}
theorem send_nil (tt : Int) (h : 0 ≤ tt ∧ tt < 2) (fv : Value) (xs : List UInt8) : sendF [] tt fv xs = [(tt, fv, xs)] := if_pos ⟨h.1, h.2, by simp⟩
theorem send_one (tt : Int) (h : 0 ≤ tt ∧ tt < 2) (fv : Value) (xs : List UInt8) (f : Fr_) : sendF [f] tt fv xs = [f, (tt, fv, xs)] := if_pos ⟨h.1, h.2, by simp⟩

set_option maxRecDepth 10000 in
set_option maxHeartbeats 1000000 in
theorem nAlive_any (HS : St w0 F W L) : Calls Try.prog 21 #[] W fun e w' => e = .returned (.bool true) ∧ St w0 F w' L := by
  refine c_enter Try.func21 rfl 46 rfl [undef, undef, undef, undef, undef, undef, undef, undef, undef, undef, undef, undef, undef, undef, undef, undef, undef, undef, undef, undef, undef, undef, undef, undef, undef, undef, undef, undef, undef, undef, undef, undef, undef, undef, undef, undef, undef, undef, undef, undef, undef, undef, undef, undef, undef, undef] rfl ?_
  refine wp_seq_k (fun K1 hK2 => ?_)
  refine c_region (fun ops4 hops3 => ?_)
  clear hops3
  refine p_run (l' := _) _ (x_assign (.bool false) rfl rfl) rfl ?_
  refine wpList_nil ?_
  refine fr_at (l' := [.bool false, undef, undef, undef, undef, undef, undef, undef, undef, undef, undef, undef, undef, undef, undef, undef, undef, undef, undef, undef, undef, undef, undef, undef, undef, undef, undef, undef, undef, undef, undef, undef, undef, undef, undef, undef, undef, undef, undef, undef, undef, undef, undef, undef, undef, undef]) rfl ?_
  refine hK2 _ _ ?_
  refine wp_seq_k (fun K5 hK6 => ?_)
  refine c_region (fun ops8 hops7 => ?_)
  clear hops7
  refine w_call [] Try.func22 (by kernel_rfl) (by rfl) rfl ?_
  refine (nNew_any HS).mono ?_
  clear HS
  rintro e w10 ⟨G9, rfl, HS⟩
  refine ⟨_, rfl, ?_⟩
  refine p_run (l' := _) _ (x_assign (.pointer (some ⟨G9, 0, none⟩)) rfl rfl) rfl ?_
  refine wpList_nil ?_
  refine fr_at (l' := [.bool false, .pointer (some ⟨G9, 0, none⟩), undef, undef, undef, .pointer (some ⟨G9, 0, none⟩), undef, undef, undef, undef, undef, undef, undef, undef, undef, undef, undef, undef, undef, undef, undef, undef, undef, undef, undef, undef, undef, undef, undef, undef, undef, undef, undef, undef, undef, undef, undef, undef, undef, undef, undef, undef, undef, undef, undef, undef]) rfl ?_
  refine hK6 _ _ ?_
  refine wp_seq_k (fun K11 hK12 => ?_)
  refine wp_seq_k (fun K13 hK14 => ?_)
  refine c_region (fun ops16 hops15 => ?_)
  clear hops15
  refine p_run (l' := _) _ (x_move (.pointer (some ⟨G9, 0, none⟩)) rfl rfl) rfl ?_
  refine p_run (l' := _) _ (x_eq .eql (.pointer (some ⟨G9, 0, none⟩)) (.pointer none) false false rfl rfl rfl (equal_ptrnil Try.underlying39) rfl rfl) rfl ?_
  refine wpList_nil ?_
  refine fr_at (l' := [.bool false, .pointer (some ⟨G9, 0, none⟩), undef, undef, undef, .pointer (some ⟨G9, 0, none⟩), .pointer (some ⟨G9, 0, none⟩), .bool false, undef, undef, undef, undef, undef, undef, undef, undef, undef, undef, undef, undef, undef, undef, undef, undef, undef, undef, undef, undef, undef, undef, undef, undef, undef, undef, undef, undef, undef, undef, undef, undef, undef, undef, undef, undef, undef, undef]) rfl ?_
  refine hK14 _ _ ?_
  refine c_false rfl ?_
  refine wp_skip ?_
  refine hK12 _ _ ?_
  refine wp_seq_k (fun K17 hK18 => ?_)
  refine c_region (fun ops20 hops19 => ?_)
  clear hops19
  refine p_run (l' := _) _ (x_move (.pointer (some ⟨G9, 0, none⟩)) rfl rfl) rfl ?_
  refine St.wLit1 HS [.int .u8 97] 1 (.int .u8 0) (.int .u8 97) Try.underlying24 (by kernel_rfl) (by decide) rfl rfl rfl ?_
  clear HS
  intro g21 w22 hg23 HS
  replace HS : St _ _ _ (blk g21 (nums .u8 (([97] : List UInt8).map bv)) _ :: _) := HS
  refine St.wConvC HS rfl (by decide) (by decide) ?_
  clear HS
  intro w24 HS
  refine w_call [.pointer (some ⟨G9, 0, none⟩), .int .i64 1, .slice (some ⟨g21, 0, none⟩) 1 1] Try.func23 (by kernel_rfl) (by rfl) rfl ?_
  replace HS := (((HS.front 3 rfl).front 3 rfl).front 3 rfl)
  refine (nSend_any HS 1 (xs := [97]) (fun w hw => hw.get (.tail _ (.tail _ (.tail _ (.head _))))) (by simp) (by simp)).mono ?_
  clear HS
  rintro e w27 ⟨v25, v26, rfl, HS⟩
  rw [send_nil 1 (by decide)] at HS
  refine ⟨_, rfl, ?_⟩
  refine fr_to (l' := [.bool false, .pointer (some ⟨G9, 0, none⟩), undef, undef, undef, .pointer (some ⟨G9, 0, none⟩), .pointer (some ⟨G9, 0, none⟩), .bool false, .pointer (some ⟨G9, 0, none⟩), .slice (some ⟨g21, 0, none⟩) 1 1, .slice (some ⟨g21, 0, none⟩) 1 1, .tuple [].toArray, undef, undef, undef, undef, undef, undef, undef, undef, undef, undef, undef, undef, undef, undef, undef, undef, undef, undef, undef, undef, undef, undef, undef, undef, undef, undef, undef, undef, undef, undef, undef, undef, undef, undef]) rfl ?_
  refine wpList_nil ?_
  refine hK18 _ _ ?_
  refine wp_seq_k (fun K28 hK29 => ?_)
  refine c_region (fun ops31 hops30 => ?_)
  clear hops30
  refine p_run (l' := _) _ (x_move (.pointer (some ⟨G9, 0, none⟩)) rfl rfl) rfl ?_
  refine w_call [.pointer (some ⟨G9, 0, none⟩), .int .i64 0] Try.func27 (by kernel_rfl) (by rfl) rfl ?_
  replace HS := (((HS.front 2 rfl).front 2 rfl).front 2 rfl)
  refine (nTwice_yes (i := 0) HS (show ([(1, v26, [97])] : List Fr_)[0]? = some (1, v26, [97]) from rfl) (by simp) (by simp)).mono ?_
  clear HS
  rintro e w34 ⟨v32, v33, rfl, HS⟩
  rw [send_one 1 (by decide)] at HS
  refine ⟨_, rfl, ?_⟩
  refine p_run (l' := _) _ (x_assign (.int .i64 0) rfl rfl) rfl ?_
  refine wpList_nil ?_
  refine fr_at (l' := [.bool false, .pointer (some ⟨G9, 0, none⟩), .int .i64 0, undef, undef, .pointer (some ⟨G9, 0, none⟩), .pointer (some ⟨G9, 0, none⟩), .bool false, .pointer (some ⟨G9, 0, none⟩), .slice (some ⟨g21, 0, none⟩) 1 1, .slice (some ⟨g21, 0, none⟩) 1 1, .tuple [].toArray, .pointer (some ⟨G9, 0, none⟩), .int .i64 0, undef, undef, undef, undef, undef, undef, undef, undef, undef, undef, undef, undef, undef, undef, undef, undef, undef, undef, undef, undef, undef, undef, undef, undef, undef, undef, undef, undef, undef, undef, undef, undef]) rfl ?_
  refine hK29 _ _ ?_
  refine wp_seq_k (fun K35 hK36 => ?_)
  refine c_region (fun ops38 hops37 => ?_)
  clear hops37
  refine p_run (l' := _) _ (x_move (.pointer (some ⟨G9, 0, none⟩)) rfl rfl) rfl ?_
  refine w_call [.pointer (some ⟨G9, 0, none⟩), .int .i64 0] Try.func24 (by kernel_rfl) (by rfl) rfl ?_
  replace HS := (((HS.front 2 rfl).front 2 rfl).front 2 rfl)
  refine (nTake_yes (i := 0) HS (show ([(1, v26, [97]), (1, v33, [97])] : List Fr_)[0]? = some (1, v26, [97]) from rfl) (by simp)).mono ?_
  clear HS
  rintro e w40 ⟨v39, rfl, HS⟩
  rw [show ([(1, v26, [97]), (1, v33, [97])] : List Fr_).eraseIdx 0 = [(1, v33, [97])] from rfl] at HS
  obtain ⟨A41, c42, hv43, hcp44, -⟩ := row_reads (HS.get (.head _))
  subst hv43
  refine ⟨_, rfl, ?_⟩
  refine p_run (l' := _) _ (x_move (.tuple [.slice A41 ([97].length) c42, .int .i64 0].toArray) rfl rfl) rfl ?_
  refine p_run (l' := [.bool false, .pointer (some ⟨G9, 0, none⟩), .int .i64 0, undef, undef, .pointer (some ⟨G9, 0, none⟩), .pointer (some ⟨G9, 0, none⟩), .bool false, .pointer (some ⟨G9, 0, none⟩), .slice (some ⟨g21, 0, none⟩) 1 1, .slice (some ⟨g21, 0, none⟩) 1 1, .tuple [].toArray, .pointer (some ⟨G9, 0, none⟩), .int .i64 0, .tuple [.slice A41 ([97].length) c42, .int .i64 0].toArray, .pointer (some ⟨G9, 0, none⟩), .tuple [.slice A41 ([97].length) c42, .int .i64 0].toArray, .slice A41 ([97].length) c42, undef, undef, undef, undef, undef, undef, undef, undef, undef, undef, undef, undef, undef, undef, undef, undef, undef, undef, undef, undef, undef, undef, undef, undef, undef, undef, undef, undef]) _ (x_extract (vs := [.slice A41 ([97].length) c42, .int .i64 0]) 0 (.slice A41 ([97].length) c42) rfl rfl rfl) rfl ?_
  refine p_run (l' := _) _ (x_extract (vs := [.slice A41 ([97].length) c42, .int .i64 0]) 1 (.int .i64 0) rfl rfl rfl) rfl ?_
  refine p_run (l' := _) _ (x_assign (.slice A41 ([97].length) c42) rfl rfl) rfl ?_
  refine p_run (l' := _) _ (x_assign (.int .i64 0) rfl rfl) rfl ?_
  refine wpList_nil ?_
  refine fr_at (l' := [.bool false, .pointer (some ⟨G9, 0, none⟩), .int .i64 0, .slice A41 ([97].length) c42, .int .i64 0, .pointer (some ⟨G9, 0, none⟩), .pointer (some ⟨G9, 0, none⟩), .bool false, .pointer (some ⟨G9, 0, none⟩), .slice (some ⟨g21, 0, none⟩) 1 1, .slice (some ⟨g21, 0, none⟩) 1 1, .tuple [].toArray, .pointer (some ⟨G9, 0, none⟩), .int .i64 0, .tuple [.slice A41 ([97].length) c42, .int .i64 0].toArray, .pointer (some ⟨G9, 0, none⟩), .tuple [.slice A41 ([97].length) c42, .int .i64 0].toArray, .slice A41 ([97].length) c42, .int .i64 0, undef, undef, undef, undef, undef, undef, undef, undef, undef, undef, undef, undef, undef, undef, undef, undef, undef, undef, undef, undef, undef, undef, undef, undef, undef, undef, undef]) rfl ?_
  refine hK36 _ _ ?_
  refine wp_seq_k (fun K45 hK46 => ?_)
  refine c_region (fun ops48 hops47 => ?_)
  refine p_run (l' := _) _ (x_move (.int .i64 0) rfl rfl) rfl ?_
  refine p_run (l' := _) _ (x_cmp (k := .i64) (m := 0) (n := 0) .eql true rfl rfl rfl (by decide) rfl) rfl ?_
  refine p_run (l' := _) _ (x_move (.bool true) rfl rfl) rfl ?_
  refine p_on rfl (by rw [hops47]; rfl) ?_
  refine p_run (l' := [.bool false, .pointer (some ⟨G9, 0, none⟩), .int .i64 0, .slice A41 ([97].length) c42, .int .i64 0, .pointer (some ⟨G9, 0, none⟩), .pointer (some ⟨G9, 0, none⟩), .bool false, .pointer (some ⟨G9, 0, none⟩), .slice (some ⟨g21, 0, none⟩) 1 1, .slice (some ⟨g21, 0, none⟩) 1 1, .tuple [].toArray, .pointer (some ⟨G9, 0, none⟩), .int .i64 0, .tuple [.slice A41 ([97].length) c42, .int .i64 0].toArray, .pointer (some ⟨G9, 0, none⟩), .tuple [.slice A41 ([97].length) c42, .int .i64 0].toArray, .slice A41 ([97].length) c42, .int .i64 0, .int .i64 0, .bool true, .bool true, .int .i64 0, undef, undef, undef, undef, undef, undef, undef, undef, undef, undef, undef, undef, undef, undef, undef, undef, undef, undef, undef, undef, undef, undef, undef]) _ (x_move (.int .i64 0) rfl rfl) rfl ?_
  refine p_on rfl (by rw [hops47]; rfl) ?_
  refine p_run (l' := _) _ (x_cmp (k := .i64) (m := 0) (n := 0) .eql true rfl rfl rfl (by decide) rfl) rfl ?_
  refine p_run (l' := _) _ (x_pick true (.bool true) (.bool false) (.bool true) rfl rfl rfl rfl rfl) rfl ?_
  refine p_run (l' := _) _ (x_move (.bool true) rfl rfl) rfl ?_
  refine p_on rfl (by rw [hops47]; rfl) ?_
  refine p_run (l' := [.bool false, .pointer (some ⟨G9, 0, none⟩), .int .i64 0, .slice A41 ([97].length) c42, .int .i64 0, .pointer (some ⟨G9, 0, none⟩), .pointer (some ⟨G9, 0, none⟩), .bool false, .pointer (some ⟨G9, 0, none⟩), .slice (some ⟨g21, 0, none⟩) 1 1, .slice (some ⟨g21, 0, none⟩) 1 1, .tuple [].toArray, .pointer (some ⟨G9, 0, none⟩), .int .i64 0, .tuple [.slice A41 ([97].length) c42, .int .i64 0].toArray, .pointer (some ⟨G9, 0, none⟩), .tuple [.slice A41 ([97].length) c42, .int .i64 0].toArray, .slice A41 ([97].length) c42, .int .i64 0, .int .i64 0, .bool true, .bool true, .int .i64 0, .bool true, .bool true, .bool true, .slice A41 ([97].length) c42, undef, undef, undef, undef, undef, undef, undef, undef, undef, undef, undef, undef, undef, undef, undef, undef, undef, undef, undef]) _ (x_move (.slice A41 ([97].length) c42) rfl rfl) rfl ?_
  refine p_on rfl (by rw [hops47]; rfl) ?_
  refine p_run (l' := _) _ (x_str (xs := [97]) (row_rd (HS.get (.head _))).2.2 rfl rfl rfl) rfl ?_
  refine p_on rfl (by rw [hops47]; rfl) ?_
  refine p_run (l' := _) _ (x_streq .eql (strB [97]) ({ data := #[97] }) true rfl rfl rfl (str_yes (ys := [97]) rfl) rfl) rfl ?_
  refine p_run (l' := _) _ (x_pick true (.bool true) (.bool false) (.bool true) rfl rfl rfl rfl rfl) rfl ?_
  refine p_run (l' := [.bool false, .pointer (some ⟨G9, 0, none⟩), .int .i64 0, .slice A41 ([97].length) c42, .int .i64 0, .pointer (some ⟨G9, 0, none⟩), .pointer (some ⟨G9, 0, none⟩), .bool false, .pointer (some ⟨G9, 0, none⟩), .slice (some ⟨g21, 0, none⟩) 1 1, .slice (some ⟨g21, 0, none⟩) 1 1, .tuple [].toArray, .pointer (some ⟨G9, 0, none⟩), .int .i64 0, .tuple [.slice A41 ([97].length) c42, .int .i64 0].toArray, .pointer (some ⟨G9, 0, none⟩), .tuple [.slice A41 ([97].length) c42, .int .i64 0].toArray, .slice A41 ([97].length) c42, .int .i64 0, .int .i64 0, .bool true, .bool true, .int .i64 0, .bool true, .bool true, .bool true, .slice A41 ([97].length) c42, .string (strB [97]), .bool true, .bool true, .bool true, undef, undef, undef, undef, undef, undef, undef, undef, undef, undef, undef, undef, undef, undef, undef]) _ (x_move (.bool true) rfl rfl) rfl ?_
  refine p_on rfl (by rw [hops47]; rfl) ?_
  refine p_run (l' := _) _ (x_move (.pointer (some ⟨G9, 0, none⟩)) rfl rfl) rfl ?_
  refine p_on rfl (by rw [hops47]; rfl) ?_
  refine w_call [.pointer (some ⟨G9, 0, none⟩)] Try.func25 (by kernel_rfl) (by rfl) rfl ?_
  replace HS := (((HS.front 3 rfl).front 3 rfl).front 3 rfl)
  refine (nLen_any HS).mono ?_
  rintro e w' ⟨rfl, rfl⟩
  refine ⟨_, rfl, ?_⟩
  refine p_on rfl (by rw [hops47]; rfl) ?_
  refine p_run (l' := _) _ (x_cmp (k := .i64) (m := ([(1, v33, [97])].length : Int)) (n := 1) .eql true rfl rfl rfl (by rfl) rfl) rfl ?_
  refine p_run (l' := [.bool false, .pointer (some ⟨G9, 0, none⟩), .int .i64 0, .slice A41 ([97].length) c42, .int .i64 0, .pointer (some ⟨G9, 0, none⟩), .pointer (some ⟨G9, 0, none⟩), .bool false, .pointer (some ⟨G9, 0, none⟩), .slice (some ⟨g21, 0, none⟩) 1 1, .slice (some ⟨g21, 0, none⟩) 1 1, .tuple [].toArray, .pointer (some ⟨G9, 0, none⟩), .int .i64 0, .tuple [.slice A41 ([97].length) c42, .int .i64 0].toArray, .pointer (some ⟨G9, 0, none⟩), .tuple [.slice A41 ([97].length) c42, .int .i64 0].toArray, .slice A41 ([97].length) c42, .int .i64 0, .int .i64 0, .bool true, .bool true, .int .i64 0, .bool true, .bool true, .bool true, .slice A41 ([97].length) c42, .string (strB [97]), .bool true, .bool true, .bool true, .pointer (some ⟨G9, 0, none⟩), .int .i64 ([(1, v33, [97])].length : Int), .bool true, .bool true, undef, undef, undef, undef, undef, undef, undef, undef, undef, undef, undef]) _ (x_pick true (.bool true) (.bool false) (.bool true) rfl rfl rfl rfl rfl) rfl ?_
  refine p_run (l' := _) _ (x_move (.bool true) rfl rfl) rfl ?_
  refine p_on rfl (by rw [hops47]; rfl) ?_
  refine p_run (l' := _) _ (x_move (.pointer (some ⟨G9, 0, none⟩)) rfl rfl) rfl ?_
  refine p_on rfl (by rw [hops47]; rfl) ?_
  refine w_call [.pointer (some ⟨G9, 0, none⟩), .int .i64 0] Try.func30 (by kernel_rfl) (by rfl) rfl ?_
  replace HS := (((HS.front 2 rfl).front 2 rfl).front 2 rfl)
  refine (nTo_yes (i := 0) HS (show ([(1, v33, [97])] : List Fr_)[0]? = some (1, v33, [97]) from rfl) (by simp)).mono ?_
  rintro e w' ⟨rfl, rfl⟩
  refine ⟨_, rfl, ?_⟩
  refine p_on rfl (by rw [hops47]; rfl) ?_
  refine p_run (l' := [.bool false, .pointer (some ⟨G9, 0, none⟩), .int .i64 0, .slice A41 ([97].length) c42, .int .i64 0, .pointer (some ⟨G9, 0, none⟩), .pointer (some ⟨G9, 0, none⟩), .bool false, .pointer (some ⟨G9, 0, none⟩), .slice (some ⟨g21, 0, none⟩) 1 1, .slice (some ⟨g21, 0, none⟩) 1 1, .tuple [].toArray, .pointer (some ⟨G9, 0, none⟩), .int .i64 0, .tuple [.slice A41 ([97].length) c42, .int .i64 0].toArray, .pointer (some ⟨G9, 0, none⟩), .tuple [.slice A41 ([97].length) c42, .int .i64 0].toArray, .slice A41 ([97].length) c42, .int .i64 0, .int .i64 0, .bool true, .bool true, .int .i64 0, .bool true, .bool true, .bool true, .slice A41 ([97].length) c42, .string (strB [97]), .bool true, .bool true, .bool true, .pointer (some ⟨G9, 0, none⟩), .int .i64 ([(1, v33, [97])].length : Int), .bool true, .bool true, .bool true, .pointer (some ⟨G9, 0, none⟩), .int .i64 1, .bool true, undef, undef, undef, undef, undef, undef, undef]) _ (x_cmp (k := .i64) (m := 1) (n := 1) .eql true rfl rfl rfl (by decide) rfl) rfl ?_
  refine p_run (l' := _) _ (x_pick true (.bool true) (.bool false) (.bool true) rfl rfl rfl rfl rfl) rfl ?_
  refine p_run (l' := _) _ (x_move (.bool true) rfl rfl) rfl ?_
  refine p_on rfl (by rw [hops47]; rfl) ?_
  refine p_run (l' := _) _ (x_move (.pointer (some ⟨G9, 0, none⟩)) rfl rfl) rfl ?_
  refine p_on rfl (by rw [hops47]; rfl) ?_
  refine w_call [.pointer (some ⟨G9, 0, none⟩), .int .i64 0] Try.func28 (by kernel_rfl) (by rfl) rfl ?_
  replace HS := (((HS.front 2 rfl).front 2 rfl).front 2 rfl)
  refine (nPeek_yes (i := 0) HS (show ([(1, v33, [97])] : List Fr_)[0]? = some (1, v33, [97]) from rfl) (by simp) (by simp)).mono ?_
  clear HS
  rintro e w51 ⟨oa49, nc50, rfl, HS⟩
  refine ⟨_, rfl, ?_⟩
  refine fr_to (l' := [.bool false, .pointer (some ⟨G9, 0, none⟩), .int .i64 0, .slice A41 ([97].length) c42, .int .i64 0, .pointer (some ⟨G9, 0, none⟩), .pointer (some ⟨G9, 0, none⟩), .bool false, .pointer (some ⟨G9, 0, none⟩), .slice (some ⟨g21, 0, none⟩) 1 1, .slice (some ⟨g21, 0, none⟩) 1 1, .tuple [].toArray, .pointer (some ⟨G9, 0, none⟩), .int .i64 0, .tuple [.slice A41 ([97].length) c42, .int .i64 0].toArray, .pointer (some ⟨G9, 0, none⟩), .tuple [.slice A41 ([97].length) c42, .int .i64 0].toArray, .slice A41 ([97].length) c42, .int .i64 0, .int .i64 0, .bool true, .bool true, .int .i64 0, .bool true, .bool true, .bool true, .slice A41 ([97].length) c42, .string (strB [97]), .bool true, .bool true, .bool true, .pointer (some ⟨G9, 0, none⟩), .int .i64 ([(1, v33, [97])].length : Int), .bool true, .bool true, .bool true, .pointer (some ⟨G9, 0, none⟩), .int .i64 1, .bool true, .bool true, .bool true, .pointer (some ⟨G9, 0, none⟩), .slice oa49 ([97].length) nc50, undef, undef, undef]) rfl ?_
  refine p_on rfl (by rw [hops47]; rfl) ?_
  refine p_run (l' := _) _ (x_str (xs := [97]) (row_rd (HS.get (.head _))).2.2 rfl rfl rfl) rfl ?_
  refine p_on rfl (by rw [hops47]; rfl) ?_
  refine p_run (l' := _) _ (x_streq .eql (strB [97]) ({ data := #[97] }) true rfl rfl rfl (str_yes (ys := [97]) rfl) rfl) rfl ?_
  refine p_run (l' := _) _ (x_pick true (.bool true) (.bool false) (.bool true) rfl rfl rfl rfl rfl) rfl ?_
  refine p_run (l' := [.bool true, .pointer (some ⟨G9, 0, none⟩), .int .i64 0, .slice A41 ([97].length) c42, .int .i64 0, .pointer (some ⟨G9, 0, none⟩), .pointer (some ⟨G9, 0, none⟩), .bool false, .pointer (some ⟨G9, 0, none⟩), .slice (some ⟨g21, 0, none⟩) 1 1, .slice (some ⟨g21, 0, none⟩) 1 1, .tuple [].toArray, .pointer (some ⟨G9, 0, none⟩), .int .i64 0, .tuple [.slice A41 ([97].length) c42, .int .i64 0].toArray, .pointer (some ⟨G9, 0, none⟩), .tuple [.slice A41 ([97].length) c42, .int .i64 0].toArray, .slice A41 ([97].length) c42, .int .i64 0, .int .i64 0, .bool true, .bool true, .int .i64 0, .bool true, .bool true, .bool true, .slice A41 ([97].length) c42, .string (strB [97]), .bool true, .bool true, .bool true, .pointer (some ⟨G9, 0, none⟩), .int .i64 ([(1, v33, [97])].length : Int), .bool true, .bool true, .bool true, .pointer (some ⟨G9, 0, none⟩), .int .i64 1, .bool true, .bool true, .bool true, .pointer (some ⟨G9, 0, none⟩), .slice oa49 ([97].length) nc50, .string (strB [97]), .bool true, .bool true]) _ (x_assign (.bool true) rfl rfl) rfl ?_
  clear hops47
  refine wpList_nil ?_
  refine hK46 _ _ ?_
  refine wp_ret ?_
  try simp only [Exit.inBlock, Exit.then]
  refine c_ret (.bool true) (r_tmp rfl rfl) ?_
  exact ⟨rfl, HS.drop.drop.drop.drop.drop.drop⟩
end
end Go.Proofs.Ytckfcnclekjjdaa
