/- The chapter's example. -/
import Derived.Test.YtenlkobjldhfgaaZRootRunsRtE
import Derived.Test.YtenlkobjldhfgaaZRootRunsWkSS
import Derived.Test.YtenlkobjldhfgaaZRootRunsV8
set_option linter.unusedVariables false
set_option linter.unusedSimpArgs false
namespace Go.Proofs.Ytenlkobjldhfgaa
open Go.RowKit Go.Proofs.YtenlkobjldhfgaaW.PrintWords Go.Proofs.YtenlkobjldhfgaaW.PrintLast Crc
abbrev U4l5a (l : List Value) : List Value := undef :: undef :: undef :: undef :: l
abbrev U8l5a (l : List Value) : List Value := U4l5a (U4l5a l)
abbrev U16l5a (l : List Value) : List Value := U8l5a (U8l5a l)
abbrev U32l5a (l : List Value) : List Value := U16l5a (U16l5a l)
theorem z_top : lkT zP zP = 0 := by kernel_rfl
theorem z_nx : nX zP zP = 1 := by kernel_rfl
theorem z_le : (lkT zP zP).toNat ≤ 18446744073709551612 := by rw [z_top]; decide
section
variable {S : Dk} {q0 q1 xs : List UInt8}
structure WR (S : Dk) (q0 q1 xs : List UInt8) : Prop where
 e : wE S q0 q1 xs = 0
 g : wG S q0 q1 xs = UInt64.ofNat (nX q0 q1)
 r : RT (wS S q0 q1 xs) (s0 (nX q0 q1 % 2) (nP q0 q1 xs) q0) (s1 (nX q0 q1 % 2) (nP q0 q1 xs) q1)
 rb : rB (wS S q0 q1 xs) (s0 (nX q0 q1 % 2) (nP q0 q1 xs) q0) (s1 (nX q0 q1 % 2) (nP q0 q1 xs) q1) = xs
 rg : rG (wS S q0 q1 xs) (s0 (nX q0 q1 % 2) (nP q0 q1 xs) q0) (s1 (nX q0 q1 % 2) (nP q0 q1 xs) q1) = UInt64.ofNat (nX q0 q1)
 re : reE (wS S q0 q1 xs) (s0 (nX q0 q1 % 2) (nP q0 q1 xs) q0) (s1 (nX q0 q1 % 2) (nP q0 q1 xs) q1) = 0
 lt : lkT (s0 (nX q0 q1 % 2) (nP q0 q1 xs) q0) (s1 (nX q0 q1 % 2) (nP q0 q1 xs) q1) = UInt64.ofNat (nX q0 q1)
 lg : lkG (s0 (nX q0 q1 % 2) (nP q0 q1 xs) q0) (s1 (nX q0 q1 % 2) (nP q0 q1 xs) q1) = UInt64.ofNat (nX q0 q1)
theorem wr_all (h : RT S q0 q1) (ht : (lkT q0 q1).toNat ≤ 18446744073709551612) (hx : xs.length ≤ 186) : WR S q0 q1 xs := by
 obtain ⟨h1, h2, h3⟩ := rt_write h ht hx
 obtain ⟨f1, f2, f3⟩ := lk_after (xs := xs) ht hx
 obtain ⟨g1, g2, g3⟩ := rt_vals h3
 exact ⟨h1, h2, h3, g1.trans f2, g2.trans f1, g3.trans (by rw [f1, if_neg (nX_ne ht).1]), f3, f1⟩
end
set_option maxRecDepth 10000 in
set_option maxHeartbeats 2000000 in
theorem ralive_any (w : World) : Calls Try.prog 12 #[] w fun e w' => e = .returned (.bool true) ∧ Below w.heap.size w w' := by
 have HS := St.empty w
 ·refine c_enter Try.func12 rfl 42 rfl (U32l5a (U8l5a (undef :: undef :: []))) rfl ?_
  refine wp_seq_k (fun K1 hK2 => ?_)
  refine c_region (fun ops4 hops3 => ?_)
  clear hops3
  refine p_run _ (x_assign (.bool false) rfl rfl) rfl ?_
  refine wpList_nil ?_
  refine hK2 _ _ ?_
  refine wp_seq_k (fun K5 hK6 => ?_)
  refine c_region (fun ops8 hops7 => ?_)
  clear hops7
  refine w_call [.int .i64 4] Try.func8 (by kernel_rfl) (by rfl) rfl ?_
  refine (dnew_any HS 4).mono ?_
  clear HS
  rintro e w12 ⟨D9, gs10, gm11, rfl, HS⟩
  have hgd13 := good_new 4
  have hR14 : RT (Dk.new 4) zP zP := rt_new (by omega)
  refine ⟨_, rfl, ?_⟩
  refine p_run _ (x_assign (.pointer (some ⟨D9, 0, none⟩)) rfl rfl) rfl ?_
  refine wpList_nil ?_
  refine hK6 _ _ ?_
  refine wp_seq_k (fun K15 hK16 => ?_)
  refine wp_seq_k (fun K17 hK18 => ?_)
  refine c_region (fun ops20 hops19 => ?_)
  clear hops19
  refine p_run _ (x_move (.pointer (some ⟨D9, 0, none⟩)) rfl rfl) rfl ?_
  refine p_run _ (x_eq .eql (.pointer (some ⟨D9, 0, none⟩)) (.pointer none) false false rfl rfl rfl (equal_ptrnil Try.underlying22) rfl rfl) rfl ?_
  refine wpList_nil ?_
  refine hK18 _ _ ?_
  refine c_false rfl ?_
  refine wp_skip ?_
  refine hK16 _ _ ?_
  refine wp_seq_k (fun K21 hK22 => ?_)
  refine c_region (fun ops24 hops23 => ?_)
  clear hops23
  refine p_run _ (x_move (.pointer (some ⟨D9, 0, none⟩)) rfl rfl) rfl ?_
  refine St.wLit HS (cs := [.int .u8 97, .int .u8 98]) 1 (.int .u8 0) Try.underlying24 (by kernel_rfl) (by decide) (by kernel_rfl) ?_
  clear HS
  intro g25 w26 hg27 HS
  replace HS : St _ _ _ (blk g25 (nums .u8 (([97, 98] : List UInt8).map bv)) _ :: _) := HS
  refine St.wConvC HS rfl (by decide) (by decide) ?_
  clear HS
  intro w28 HS
  refine w_call [.pointer (some ⟨D9, 0, none⟩), .slice (some ⟨g25, 0, none⟩) 2 2] Try.func10 (by kernel_rfl) (by rfl) rfl ?_
  replace HS := ((((HS.front 4 rfl).front 4 rfl).front 4 rfl).front 4 rfl)
  refine (write_root HS hgd13 (by omega) (rt_p0 hR14) (rt_p1 hR14) hR14.l0 hR14.l1 [97, 98] (fun w X hX => ⟨Sl.rd (hX.hs.right.1 _ (.head _)), Sl.cap (hX.hs.right.1 _ (.head _))⟩)).mono ?_
  clear HS
  rintro e w30 ⟨v29, rfl, HS⟩
  have hgd31 : Dk.good (wS (Dk.new 4) zP zP [97, 98]) (1) := good_wS hgd13 [97, 98]
  have hW32 : WR (Dk.new 4) zP zP [97, 98] := wr_all hR14 z_le (by decide)
  have hW_ := hW32
  refine ⟨_, rfl, ?_⟩
  refine fr_to (l' := (.bool false :: .pointer (some ⟨D9, 0, none⟩) :: U4l5a (undef :: .pointer (some ⟨D9, 0, none⟩) :: .pointer (some ⟨D9, 0, none⟩) :: .bool false :: undef :: .pointer (some ⟨D9, 0, none⟩) :: .slice (some ⟨g25, 0, none⟩) 2 2 :: .slice (some ⟨g25, 0, none⟩) 2 2 :: .tuple [.int .u64 (uv (wG (Dk.new 4) zP zP [97, 98])), .int .i64 (wE (Dk.new 4) zP zP [97, 98])].toArray :: U16l5a (U8l5a (undef :: undef :: undef :: []))))) rfl ?_
  refine p_run _ (x_move (.tuple [.int .u64 (uv (wG (Dk.new 4) zP zP [97, 98])), .int .i64 (wE (Dk.new 4) zP zP [97, 98])].toArray) rfl rfl) rfl ?_
  refine p_run _ (x_extract (vs := [.int .u64 (uv (wG (Dk.new 4) zP zP [97, 98])), .int .i64 (wE (Dk.new 4) zP zP [97, 98])]) 0 (.int .u64 (uv (wG (Dk.new 4) zP zP [97, 98]))) rfl rfl rfl) rfl ?_
  refine p_run _ (x_extract (vs := [.int .u64 (uv (wG (Dk.new 4) zP zP [97, 98])), .int .i64 (wE (Dk.new 4) zP zP [97, 98])]) 1 (.int .i64 (wE (Dk.new 4) zP zP [97, 98])) rfl rfl rfl) rfl ?_
  refine p_run _ (x_assign (.int .u64 (uv (wG (Dk.new 4) zP zP [97, 98]))) rfl rfl) rfl ?_
  refine p_run _ (x_assign (.int .i64 (wE (Dk.new 4) zP zP [97, 98])) rfl rfl) rfl ?_
  refine wpList_nil ?_
  refine hK22 _ _ ?_
  refine wp_seq_k (fun K33 hK34 => ?_)
  refine c_region (fun ops36 hops35 => ?_)
  clear hops35
  refine p_run _ (x_move (.pointer (some ⟨D9, 0, none⟩)) rfl rfl) rfl ?_
  refine w_call [.pointer (some ⟨D9, 0, none⟩)] Try.func9 (by kernel_rfl) (by rfl) rfl ?_
  replace HS := ((((HS.front 3 rfl).front 3 rfl).front 3 rfl).front 3 rfl)
  refine (read_root HS hgd31 (by omega) (rt_p0 hW32.r) (rt_p1 hW32.r) hW32.r.l0 hW32.r.l1).mono ?_
  clear HS
  rintro e w39 ⟨oa37, nc38, rfl, HS⟩
  refine ⟨_, rfl, ?_⟩
  refine p_run _ (x_move (.tuple [.slice oa37 ((rB (wS (Dk.new 4) zP zP [97, 98]) (s0 (nX zP zP % 2) (nP zP zP [97, 98]) zP) (s1 (nX zP zP % 2) (nP zP zP [97, 98]) zP)).length) nc38, .int .u64 (uv (rG (wS (Dk.new 4) zP zP [97, 98]) (s0 (nX zP zP % 2) (nP zP zP [97, 98]) zP) (s1 (nX zP zP % 2) (nP zP zP [97, 98]) zP))), .int .i64 (reE (wS (Dk.new 4) zP zP [97, 98]) (s0 (nX zP zP % 2) (nP zP zP [97, 98]) zP) (s1 (nX zP zP % 2) (nP zP zP [97, 98]) zP))].toArray) rfl rfl) rfl ?_
  refine p_run (l' := (.bool false :: .pointer (some ⟨D9, 0, none⟩) :: .int .u64 (uv (wG (Dk.new 4) zP zP [97, 98])) :: .int .i64 (wE (Dk.new 4) zP zP [97, 98]) :: undef :: undef :: undef :: .pointer (some ⟨D9, 0, none⟩) :: .pointer (some ⟨D9, 0, none⟩) :: .bool false :: .tuple [.int .u64 (uv (wG (Dk.new 4) zP zP [97, 98])), .int .i64 (wE (Dk.new 4) zP zP [97, 98])].toArray :: .pointer (some ⟨D9, 0, none⟩) :: .slice (some ⟨g25, 0, none⟩) 2 2 :: .slice (some ⟨g25, 0, none⟩) 2 2 :: .tuple [.int .u64 (uv (wG (Dk.new 4) zP zP [97, 98])), .int .i64 (wE (Dk.new 4) zP zP [97, 98])].toArray :: .int .u64 (uv (wG (Dk.new 4) zP zP [97, 98])) :: .int .i64 (wE (Dk.new 4) zP zP [97, 98]) :: .tuple [.slice oa37 ((rB (wS (Dk.new 4) zP zP [97, 98]) (s0 (nX zP zP % 2) (nP zP zP [97, 98]) zP) (s1 (nX zP zP % 2) (nP zP zP [97, 98]) zP)).length) nc38, .int .u64 (uv (rG (wS (Dk.new 4) zP zP [97, 98]) (s0 (nX zP zP % 2) (nP zP zP [97, 98]) zP) (s1 (nX zP zP % 2) (nP zP zP [97, 98]) zP))), .int .i64 (reE (wS (Dk.new 4) zP zP [97, 98]) (s0 (nX zP zP % 2) (nP zP zP [97, 98]) zP) (s1 (nX zP zP % 2) (nP zP zP [97, 98]) zP))].toArray :: .pointer (some ⟨D9, 0, none⟩) :: .tuple [.slice oa37 ((rB (wS (Dk.new 4) zP zP [97, 98]) (s0 (nX zP zP % 2) (nP zP zP [97, 98]) zP) (s1 (nX zP zP % 2) (nP zP zP [97, 98]) zP)).length) nc38, .int .u64 (uv (rG (wS (Dk.new 4) zP zP [97, 98]) (s0 (nX zP zP % 2) (nP zP zP [97, 98]) zP) (s1 (nX zP zP % 2) (nP zP zP [97, 98]) zP))), .int .i64 (reE (wS (Dk.new 4) zP zP [97, 98]) (s0 (nX zP zP % 2) (nP zP zP [97, 98]) zP) (s1 (nX zP zP % 2) (nP zP zP [97, 98]) zP))].toArray :: .slice oa37 ((rB (wS (Dk.new 4) zP zP [97, 98]) (s0 (nX zP zP % 2) (nP zP zP [97, 98]) zP) (s1 (nX zP zP % 2) (nP zP zP [97, 98]) zP)).length) nc38 :: U16l5a (U4l5a (undef :: [])))) _ (x_extract (vs := [.slice oa37 ((rB (wS (Dk.new 4) zP zP [97, 98]) (s0 (nX zP zP % 2) (nP zP zP [97, 98]) zP) (s1 (nX zP zP % 2) (nP zP zP [97, 98]) zP)).length) nc38, .int .u64 (uv (rG (wS (Dk.new 4) zP zP [97, 98]) (s0 (nX zP zP % 2) (nP zP zP [97, 98]) zP) (s1 (nX zP zP % 2) (nP zP zP [97, 98]) zP))), .int .i64 (reE (wS (Dk.new 4) zP zP [97, 98]) (s0 (nX zP zP % 2) (nP zP zP [97, 98]) zP) (s1 (nX zP zP % 2) (nP zP zP [97, 98]) zP))]) 0 (.slice oa37 ((rB (wS (Dk.new 4) zP zP [97, 98]) (s0 (nX zP zP % 2) (nP zP zP [97, 98]) zP) (s1 (nX zP zP % 2) (nP zP zP [97, 98]) zP)).length) nc38) rfl rfl rfl) rfl ?_
  refine p_run _ (x_extract (vs := [.slice oa37 ((rB (wS (Dk.new 4) zP zP [97, 98]) (s0 (nX zP zP % 2) (nP zP zP [97, 98]) zP) (s1 (nX zP zP % 2) (nP zP zP [97, 98]) zP)).length) nc38, .int .u64 (uv (rG (wS (Dk.new 4) zP zP [97, 98]) (s0 (nX zP zP % 2) (nP zP zP [97, 98]) zP) (s1 (nX zP zP % 2) (nP zP zP [97, 98]) zP))), .int .i64 (reE (wS (Dk.new 4) zP zP [97, 98]) (s0 (nX zP zP % 2) (nP zP zP [97, 98]) zP) (s1 (nX zP zP % 2) (nP zP zP [97, 98]) zP))]) 1 (.int .u64 (uv (rG (wS (Dk.new 4) zP zP [97, 98]) (s0 (nX zP zP % 2) (nP zP zP [97, 98]) zP) (s1 (nX zP zP % 2) (nP zP zP [97, 98]) zP)))) rfl rfl rfl) rfl ?_
  refine p_run _ (x_extract (vs := [.slice oa37 ((rB (wS (Dk.new 4) zP zP [97, 98]) (s0 (nX zP zP % 2) (nP zP zP [97, 98]) zP) (s1 (nX zP zP % 2) (nP zP zP [97, 98]) zP)).length) nc38, .int .u64 (uv (rG (wS (Dk.new 4) zP zP [97, 98]) (s0 (nX zP zP % 2) (nP zP zP [97, 98]) zP) (s1 (nX zP zP % 2) (nP zP zP [97, 98]) zP))), .int .i64 (reE (wS (Dk.new 4) zP zP [97, 98]) (s0 (nX zP zP % 2) (nP zP zP [97, 98]) zP) (s1 (nX zP zP % 2) (nP zP zP [97, 98]) zP))]) 2 (.int .i64 (reE (wS (Dk.new 4) zP zP [97, 98]) (s0 (nX zP zP % 2) (nP zP zP [97, 98]) zP) (s1 (nX zP zP % 2) (nP zP zP [97, 98]) zP))) rfl rfl rfl) rfl ?_
  refine p_run _ (x_assign (.slice oa37 ((rB (wS (Dk.new 4) zP zP [97, 98]) (s0 (nX zP zP % 2) (nP zP zP [97, 98]) zP) (s1 (nX zP zP % 2) (nP zP zP [97, 98]) zP)).length) nc38) rfl rfl) rfl ?_
  refine p_run _ (x_assign (.int .u64 (uv (rG (wS (Dk.new 4) zP zP [97, 98]) (s0 (nX zP zP % 2) (nP zP zP [97, 98]) zP) (s1 (nX zP zP % 2) (nP zP zP [97, 98]) zP)))) rfl rfl) rfl ?_
  refine p_run _ (x_assign (.int .i64 (reE (wS (Dk.new 4) zP zP [97, 98]) (s0 (nX zP zP % 2) (nP zP zP [97, 98]) zP) (s1 (nX zP zP % 2) (nP zP zP [97, 98]) zP))) rfl rfl) rfl ?_
  refine wpList_nil ?_
  refine hK34 _ _ ?_
  refine wp_seq_k (fun K40 hK41 => ?_)
  refine c_region (fun ops43 hops42 => ?_)
  refine p_run _ (x_move (.int .u64 (uv (wG (Dk.new 4) zP zP [97, 98]))) rfl rfl) rfl ?_
  refine p_run _ (x_cmp (k := .u64) (m := (uv (wG (Dk.new 4) zP zP [97, 98]))) (n := 1) .eql true rfl rfl rfl (by rw [hW_.g, z_nx]; rfl) rfl) rfl ?_
  refine p_run _ (x_move (.bool true) rfl rfl) rfl ?_
  refine p_on rfl (by rw [hops42]; rfl) ?_
  refine p_run (l' := (.bool false :: .pointer (some ⟨D9, 0, none⟩) :: .int .u64 (uv (wG (Dk.new 4) zP zP [97, 98])) :: .int .i64 (wE (Dk.new 4) zP zP [97, 98]) :: .slice oa37 ((rB (wS (Dk.new 4) zP zP [97, 98]) (s0 (nX zP zP % 2) (nP zP zP [97, 98]) zP) (s1 (nX zP zP % 2) (nP zP zP [97, 98]) zP)).length) nc38 :: .int .u64 (uv (rG (wS (Dk.new 4) zP zP [97, 98]) (s0 (nX zP zP % 2) (nP zP zP [97, 98]) zP) (s1 (nX zP zP % 2) (nP zP zP [97, 98]) zP))) :: .int .i64 (reE (wS (Dk.new 4) zP zP [97, 98]) (s0 (nX zP zP % 2) (nP zP zP [97, 98]) zP) (s1 (nX zP zP % 2) (nP zP zP [97, 98]) zP)) :: .pointer (some ⟨D9, 0, none⟩) :: .pointer (some ⟨D9, 0, none⟩) :: .bool false :: .tuple [.int .u64 (uv (wG (Dk.new 4) zP zP [97, 98])), .int .i64 (wE (Dk.new 4) zP zP [97, 98])].toArray :: .pointer (some ⟨D9, 0, none⟩) :: .slice (some ⟨g25, 0, none⟩) 2 2 :: .slice (some ⟨g25, 0, none⟩) 2 2 :: .tuple [.int .u64 (uv (wG (Dk.new 4) zP zP [97, 98])), .int .i64 (wE (Dk.new 4) zP zP [97, 98])].toArray :: .int .u64 (uv (wG (Dk.new 4) zP zP [97, 98])) :: .int .i64 (wE (Dk.new 4) zP zP [97, 98]) :: .tuple [.slice oa37 ((rB (wS (Dk.new 4) zP zP [97, 98]) (s0 (nX zP zP % 2) (nP zP zP [97, 98]) zP) (s1 (nX zP zP % 2) (nP zP zP [97, 98]) zP)).length) nc38, .int .u64 (uv (rG (wS (Dk.new 4) zP zP [97, 98]) (s0 (nX zP zP % 2) (nP zP zP [97, 98]) zP) (s1 (nX zP zP % 2) (nP zP zP [97, 98]) zP))), .int .i64 (reE (wS (Dk.new 4) zP zP [97, 98]) (s0 (nX zP zP % 2) (nP zP zP [97, 98]) zP) (s1 (nX zP zP % 2) (nP zP zP [97, 98]) zP))].toArray :: .pointer (some ⟨D9, 0, none⟩) :: .tuple [.slice oa37 ((rB (wS (Dk.new 4) zP zP [97, 98]) (s0 (nX zP zP % 2) (nP zP zP [97, 98]) zP) (s1 (nX zP zP % 2) (nP zP zP [97, 98]) zP)).length) nc38, .int .u64 (uv (rG (wS (Dk.new 4) zP zP [97, 98]) (s0 (nX zP zP % 2) (nP zP zP [97, 98]) zP) (s1 (nX zP zP % 2) (nP zP zP [97, 98]) zP))), .int .i64 (reE (wS (Dk.new 4) zP zP [97, 98]) (s0 (nX zP zP % 2) (nP zP zP [97, 98]) zP) (s1 (nX zP zP % 2) (nP zP zP [97, 98]) zP))].toArray :: .slice oa37 ((rB (wS (Dk.new 4) zP zP [97, 98]) (s0 (nX zP zP % 2) (nP zP zP [97, 98]) zP) (s1 (nX zP zP % 2) (nP zP zP [97, 98]) zP)).length) nc38 :: .int .u64 (uv (rG (wS (Dk.new 4) zP zP [97, 98]) (s0 (nX zP zP % 2) (nP zP zP [97, 98]) zP) (s1 (nX zP zP % 2) (nP zP zP [97, 98]) zP))) :: .int .i64 (reE (wS (Dk.new 4) zP zP [97, 98]) (s0 (nX zP zP % 2) (nP zP zP [97, 98]) zP) (s1 (nX zP zP % 2) (nP zP zP [97, 98]) zP)) :: .int .u64 (uv (wG (Dk.new 4) zP zP [97, 98])) :: .bool true :: .bool true :: .int .i64 (wE (Dk.new 4) zP zP [97, 98]) :: U8l5a (U4l5a (undef :: undef :: undef :: [])))) _ (x_move (.int .i64 (wE (Dk.new 4) zP zP [97, 98])) rfl rfl) rfl ?_
  refine p_on rfl (by rw [hops42]; rfl) ?_
  refine p_run _ (x_cmp (k := .i64) (m := (wE (Dk.new 4) zP zP [97, 98])) (n := 0) .eql true rfl rfl rfl (by rw [hW_.e]; rfl) rfl) rfl ?_
  refine p_run _ (x_pick true (.bool true) (.bool false) (.bool true) rfl rfl rfl rfl rfl) rfl ?_
  refine p_run _ (x_move (.bool true) rfl rfl) rfl ?_
  refine p_on rfl (by rw [hops42]; rfl) ?_
  refine p_run _ (x_move (.slice oa37 ((rB (wS (Dk.new 4) zP zP [97, 98]) (s0 (nX zP zP % 2) (nP zP zP [97, 98]) zP) (s1 (nX zP zP % 2) (nP zP zP [97, 98]) zP)).length) nc38) rfl rfl) rfl ?_
  refine p_on rfl (by rw [hops42]; rfl) ?_
  refine p_run _ (x_str (xs := (rB (wS (Dk.new 4) zP zP [97, 98]) (s0 (nX zP zP % 2) (nP zP zP [97, 98]) zP) (s1 (nX zP zP % 2) (nP zP zP [97, 98]) zP))) (Sl.rd (HS.get (.head _))) (by first | rfl | simp) rfl rfl) rfl ?_
  refine p_on rfl (by rw [hops42]; rfl) ?_
  refine p_run _ (x_streq .eql (strB (rB (wS (Dk.new 4) zP zP [97, 98]) (s0 (nX zP zP % 2) (nP zP zP [97, 98]) zP) (s1 (nX zP zP % 2) (nP zP zP [97, 98]) zP))) ({ data := #[97, 98] }) true rfl rfl rfl (by rw [hW_.rb]; exact str_yes (ys := [97, 98]) rfl) rfl) rfl ?_
  refine p_run _ (x_pick true (.bool true) (.bool false) (.bool true) rfl rfl rfl rfl rfl) rfl ?_
  refine p_run _ (x_move (.bool true) rfl rfl) rfl ?_
  refine p_on rfl (by rw [hops42]; rfl) ?_
  refine p_run (l' := (.bool false :: .pointer (some ⟨D9, 0, none⟩) :: .int .u64 (uv (wG (Dk.new 4) zP zP [97, 98])) :: .int .i64 (wE (Dk.new 4) zP zP [97, 98]) :: .slice oa37 ((rB (wS (Dk.new 4) zP zP [97, 98]) (s0 (nX zP zP % 2) (nP zP zP [97, 98]) zP) (s1 (nX zP zP % 2) (nP zP zP [97, 98]) zP)).length) nc38 :: .int .u64 (uv (rG (wS (Dk.new 4) zP zP [97, 98]) (s0 (nX zP zP % 2) (nP zP zP [97, 98]) zP) (s1 (nX zP zP % 2) (nP zP zP [97, 98]) zP))) :: .int .i64 (reE (wS (Dk.new 4) zP zP [97, 98]) (s0 (nX zP zP % 2) (nP zP zP [97, 98]) zP) (s1 (nX zP zP % 2) (nP zP zP [97, 98]) zP)) :: .pointer (some ⟨D9, 0, none⟩) :: .pointer (some ⟨D9, 0, none⟩) :: .bool false :: .tuple [.int .u64 (uv (wG (Dk.new 4) zP zP [97, 98])), .int .i64 (wE (Dk.new 4) zP zP [97, 98])].toArray :: .pointer (some ⟨D9, 0, none⟩) :: .slice (some ⟨g25, 0, none⟩) 2 2 :: .slice (some ⟨g25, 0, none⟩) 2 2 :: .tuple [.int .u64 (uv (wG (Dk.new 4) zP zP [97, 98])), .int .i64 (wE (Dk.new 4) zP zP [97, 98])].toArray :: .int .u64 (uv (wG (Dk.new 4) zP zP [97, 98])) :: .int .i64 (wE (Dk.new 4) zP zP [97, 98]) :: .tuple [.slice oa37 ((rB (wS (Dk.new 4) zP zP [97, 98]) (s0 (nX zP zP % 2) (nP zP zP [97, 98]) zP) (s1 (nX zP zP % 2) (nP zP zP [97, 98]) zP)).length) nc38, .int .u64 (uv (rG (wS (Dk.new 4) zP zP [97, 98]) (s0 (nX zP zP % 2) (nP zP zP [97, 98]) zP) (s1 (nX zP zP % 2) (nP zP zP [97, 98]) zP))), .int .i64 (reE (wS (Dk.new 4) zP zP [97, 98]) (s0 (nX zP zP % 2) (nP zP zP [97, 98]) zP) (s1 (nX zP zP % 2) (nP zP zP [97, 98]) zP))].toArray :: .pointer (some ⟨D9, 0, none⟩) :: .tuple [.slice oa37 ((rB (wS (Dk.new 4) zP zP [97, 98]) (s0 (nX zP zP % 2) (nP zP zP [97, 98]) zP) (s1 (nX zP zP % 2) (nP zP zP [97, 98]) zP)).length) nc38, .int .u64 (uv (rG (wS (Dk.new 4) zP zP [97, 98]) (s0 (nX zP zP % 2) (nP zP zP [97, 98]) zP) (s1 (nX zP zP % 2) (nP zP zP [97, 98]) zP))), .int .i64 (reE (wS (Dk.new 4) zP zP [97, 98]) (s0 (nX zP zP % 2) (nP zP zP [97, 98]) zP) (s1 (nX zP zP % 2) (nP zP zP [97, 98]) zP))].toArray :: .slice oa37 ((rB (wS (Dk.new 4) zP zP [97, 98]) (s0 (nX zP zP % 2) (nP zP zP [97, 98]) zP) (s1 (nX zP zP % 2) (nP zP zP [97, 98]) zP)).length) nc38 :: .int .u64 (uv (rG (wS (Dk.new 4) zP zP [97, 98]) (s0 (nX zP zP % 2) (nP zP zP [97, 98]) zP) (s1 (nX zP zP % 2) (nP zP zP [97, 98]) zP))) :: .int .i64 (reE (wS (Dk.new 4) zP zP [97, 98]) (s0 (nX zP zP % 2) (nP zP zP [97, 98]) zP) (s1 (nX zP zP % 2) (nP zP zP [97, 98]) zP)) :: .int .u64 (uv (wG (Dk.new 4) zP zP [97, 98])) :: .bool true :: .bool true :: .int .i64 (wE (Dk.new 4) zP zP [97, 98]) :: .bool true :: .bool true :: .bool true :: .slice oa37 ((rB (wS (Dk.new 4) zP zP [97, 98]) (s0 (nX zP zP % 2) (nP zP zP [97, 98]) zP) (s1 (nX zP zP % 2) (nP zP zP [97, 98]) zP)).length) nc38 :: .string (strB (rB (wS (Dk.new 4) zP zP [97, 98]) (s0 (nX zP zP % 2) (nP zP zP [97, 98]) zP) (s1 (nX zP zP % 2) (nP zP zP [97, 98]) zP))) :: .bool true :: .bool true :: .bool true :: .int .u64 (uv (rG (wS (Dk.new 4) zP zP [97, 98]) (s0 (nX zP zP % 2) (nP zP zP [97, 98]) zP) (s1 (nX zP zP % 2) (nP zP zP [97, 98]) zP))) :: U4l5a (undef :: undef :: []))) _ (x_move (.int .u64 (uv (rG (wS (Dk.new 4) zP zP [97, 98]) (s0 (nX zP zP % 2) (nP zP zP [97, 98]) zP) (s1 (nX zP zP % 2) (nP zP zP [97, 98]) zP)))) rfl rfl) rfl ?_
  refine p_on rfl (by rw [hops42]; rfl) ?_
  refine p_run _ (x_cmp (k := .u64) (m := (uv (rG (wS (Dk.new 4) zP zP [97, 98]) (s0 (nX zP zP % 2) (nP zP zP [97, 98]) zP) (s1 (nX zP zP % 2) (nP zP zP [97, 98]) zP)))) (n := 1) .eql true rfl rfl rfl (by rw [hW_.rg, z_nx]; rfl) rfl) rfl ?_
  refine p_run _ (x_pick true (.bool true) (.bool false) (.bool true) rfl rfl rfl rfl rfl) rfl ?_
  refine p_run _ (x_move (.bool true) rfl rfl) rfl ?_
  refine p_on rfl (by rw [hops42]; rfl) ?_
  refine p_run _ (x_move (.int .i64 (reE (wS (Dk.new 4) zP zP [97, 98]) (s0 (nX zP zP % 2) (nP zP zP [97, 98]) zP) (s1 (nX zP zP % 2) (nP zP zP [97, 98]) zP))) rfl rfl) rfl ?_
  refine p_on rfl (by rw [hops42]; rfl) ?_
  refine p_run _ (x_cmp (k := .i64) (m := (reE (wS (Dk.new 4) zP zP [97, 98]) (s0 (nX zP zP % 2) (nP zP zP [97, 98]) zP) (s1 (nX zP zP % 2) (nP zP zP [97, 98]) zP))) (n := 0) .eql true rfl rfl rfl (by rw [hW_.re]; rfl) rfl) rfl ?_
  refine p_run _ (x_pick true (.bool true) (.bool false) (.bool true) rfl rfl rfl rfl rfl) rfl ?_
  refine p_run _ (x_assign (.bool true) rfl rfl) rfl ?_
  clear hops42
  refine wpList_nil ?_
  obtain ⟨qz44, hqz44⟩ : ∃ q_ : V8, q_ = ⟨.pointer (some ⟨D9, 0, none⟩), .bool false, .tuple [.int .u64 (uv (wG (Dk.new 4) zP zP [97, 98])), .int .i64 (wE (Dk.new 4) zP zP [97, 98])].toArray, .pointer (some ⟨D9, 0, none⟩), .slice (some ⟨g25, 0, none⟩) 2 2, .slice (some ⟨g25, 0, none⟩) 2 2, .tuple [.int .u64 (uv (wG (Dk.new 4) zP zP [97, 98])), .int .i64 (wE (Dk.new 4) zP zP [97, 98])].toArray, .int .u64 (uv (wG (Dk.new 4) zP zP [97, 98]))⟩ := ⟨_, rfl⟩
  obtain ⟨qz45, hqz45⟩ : ∃ q_ : V8, q_ = ⟨.int .i64 (wE (Dk.new 4) zP zP [97, 98]), .tuple [.slice oa37 ((rB (wS (Dk.new 4) zP zP [97, 98]) (s0 (nX zP zP % 2) (nP zP zP [97, 98]) zP) (s1 (nX zP zP % 2) (nP zP zP [97, 98]) zP)).length) nc38, .int .u64 (uv (rG (wS (Dk.new 4) zP zP [97, 98]) (s0 (nX zP zP % 2) (nP zP zP [97, 98]) zP) (s1 (nX zP zP % 2) (nP zP zP [97, 98]) zP))), .int .i64 (reE (wS (Dk.new 4) zP zP [97, 98]) (s0 (nX zP zP % 2) (nP zP zP [97, 98]) zP) (s1 (nX zP zP % 2) (nP zP zP [97, 98]) zP))].toArray, .pointer (some ⟨D9, 0, none⟩), .tuple [.slice oa37 ((rB (wS (Dk.new 4) zP zP [97, 98]) (s0 (nX zP zP % 2) (nP zP zP [97, 98]) zP) (s1 (nX zP zP % 2) (nP zP zP [97, 98]) zP)).length) nc38, .int .u64 (uv (rG (wS (Dk.new 4) zP zP [97, 98]) (s0 (nX zP zP % 2) (nP zP zP [97, 98]) zP) (s1 (nX zP zP % 2) (nP zP zP [97, 98]) zP))), .int .i64 (reE (wS (Dk.new 4) zP zP [97, 98]) (s0 (nX zP zP % 2) (nP zP zP [97, 98]) zP) (s1 (nX zP zP % 2) (nP zP zP [97, 98]) zP))].toArray, .slice oa37 ((rB (wS (Dk.new 4) zP zP [97, 98]) (s0 (nX zP zP % 2) (nP zP zP [97, 98]) zP) (s1 (nX zP zP % 2) (nP zP zP [97, 98]) zP)).length) nc38, .int .u64 (uv (rG (wS (Dk.new 4) zP zP [97, 98]) (s0 (nX zP zP % 2) (nP zP zP [97, 98]) zP) (s1 (nX zP zP % 2) (nP zP zP [97, 98]) zP))), .int .i64 (reE (wS (Dk.new 4) zP zP [97, 98]) (s0 (nX zP zP % 2) (nP zP zP [97, 98]) zP) (s1 (nX zP zP % 2) (nP zP zP [97, 98]) zP)), .int .u64 (uv (wG (Dk.new 4) zP zP [97, 98]))⟩ := ⟨_, rfl⟩
  obtain ⟨qz46, hqz46⟩ : ∃ q_ : V8, q_ = ⟨.bool true, .bool true, .int .i64 (wE (Dk.new 4) zP zP [97, 98]), .bool true, .bool true, .bool true, .slice oa37 ((rB (wS (Dk.new 4) zP zP [97, 98]) (s0 (nX zP zP % 2) (nP zP zP [97, 98]) zP) (s1 (nX zP zP % 2) (nP zP zP [97, 98]) zP)).length) nc38, .string (strB (rB (wS (Dk.new 4) zP zP [97, 98]) (s0 (nX zP zP % 2) (nP zP zP [97, 98]) zP) (s1 (nX zP zP % 2) (nP zP zP [97, 98]) zP)))⟩ := ⟨_, rfl⟩
  obtain ⟨qz47, hqz47⟩ : ∃ q_ : V8, q_ = ⟨.bool true, .bool true, .bool true, .int .u64 (uv (rG (wS (Dk.new 4) zP zP [97, 98]) (s0 (nX zP zP % 2) (nP zP zP [97, 98]) zP) (s1 (nX zP zP % 2) (nP zP zP [97, 98]) zP))), .bool true, .bool true, .bool true, .int .i64 (reE (wS (Dk.new 4) zP zP [97, 98]) (s0 (nX zP zP % 2) (nP zP zP [97, 98]) zP) (s1 (nX zP zP % 2) (nP zP zP [97, 98]) zP))⟩ := ⟨_, rfl⟩
  refine fr_at (l' := (.bool true :: .pointer (some ⟨D9, 0, none⟩) :: .int .u64 (uv (wG (Dk.new 4) zP zP [97, 98])) :: .int .i64 (wE (Dk.new 4) zP zP [97, 98]) :: .slice oa37 ((rB (wS (Dk.new 4) zP zP [97, 98]) (s0 (nX zP zP % 2) (nP zP zP [97, 98]) zP) (s1 (nX zP zP % 2) (nP zP zP [97, 98]) zP)).length) nc38 :: .int .u64 (uv (rG (wS (Dk.new 4) zP zP [97, 98]) (s0 (nX zP zP % 2) (nP zP zP [97, 98]) zP) (s1 (nX zP zP % 2) (nP zP zP [97, 98]) zP))) :: .int .i64 (reE (wS (Dk.new 4) zP zP [97, 98]) (s0 (nX zP zP % 2) (nP zP zP [97, 98]) zP) (s1 (nX zP zP % 2) (nP zP zP [97, 98]) zP)) :: .pointer (some ⟨D9, 0, none⟩) :: V8.l qz44 (V8.l qz45 (V8.l qz46 (V8.l qz47 (.bool true :: .bool true :: [])))))) (by subst hqz44 hqz45 hqz46 hqz47; rfl) ?_
  refine hK41 _ _ ?_
  refine wp_ret ?_
  try simp only [Exit.inBlock, Exit.then]
  refine c_ret (.bool true) (r_tmp rfl rfl) ?_
  exact ⟨rfl, HS.belowOf⟩
end Go.Proofs.Ytenlkobjldhfgaa
