/- The laws of package disk: what they share, and three of them. -/
import Derived.Test.YtjholgfaipfmbaaDkP
import Derived.Test.YtjholgfaipfmbaaWkE
set_option linter.unusedVariables false
set_option linter.unusedSimpArgs false
namespace Go.Proofs.Ytjholgfaipfmbaa
open Go.RowKit Go.Proofs.YtjholgfaipfmbaaW.PrintWords Go.Proofs.YtjholgfaipfmbaaW.PrintLast
section
variable {w0 W : World} {F : Nat → Prop} {L : List Res}
def fillN (c : Int) (j : Nat) : List Int := List.replicate j c ++ List.replicate (256 - j) 0
theorem fillN_len (c : Int) {j : Nat} (h : j ≤ 256) : (fillN c j).length = 256 := by unfold fillN; simp; omega
theorem fillN_set (c : Int) {j : Nat} (h : j < 256) : (fillN c j).set j c = fillN c (j + 1) := by
  unfold fillN
  rw [List.set_append, if_neg (by simp)]
  have e : 256 - j = (256 - (j + 1)) + 1 := by omega
  rw [List.length_replicate, Nat.sub_self, e, List.replicate_succ, List.set_cons_zero, List.replicate_succ', List.append_assoc]
  rfl
theorem fillN_all (c : Int) : fillN c 256 = rep c := by unfold fillN rep; rw [Nat.sub_self]; exact List.append_nil _

set_option maxRecDepth 10000 in
theorem full_any (HS : St w0 F W L) (c : Int) : Calls Try.prog 14 #[.int .u8 c] W fun e w' => e = .returned (.agg (nums .u8 (rep c)).toArray) ∧ St w0 F w' L := by
  refine c_enter Try.func14 rfl 14 rfl [.int .u8 c, undef, undef, undef, undef, undef, undef, undef, undef, undef, undef, undef, undef, undef] rfl ?_
  refine wp_seq_k (fun K1 hK2 => ?_)
  refine c_region (fun ops4 hops3 => ?_)
  clear hops3
  refine St.wAlloc HS (cs := ((nums .u8 zpg))) (.agg ((nums .u8 zpg)).toArray) (by kernel_rfl) rfl ?_
  clear HS
  intro g5 w6 hg7 HS
  refine wpList_nil ?_
  refine fr_at (l' := [.int .u8 c, undef, .pointer (some ⟨g5, 0, none⟩), undef, undef, undef, undef, undef, undef, undef, undef, undef, undef, undef]) rfl ?_
  refine hK2 _ _ ?_
  refine wp_seq_k (fun K8 hK9 => ?_)
  refine c_region (fun ops11 hops10 => ?_)
  clear hops10
  refine p_run (l' := _) _ (x_build ((nums .u8 zpg)) rfl (by kernel_rfl)) rfl ?_
  refine St.wAlloc HS (cs := ((nums .u8 zpg))) (.agg ((nums .u8 zpg)).toArray) (by kernel_rfl) rfl ?_
  clear HS
  intro g12 w13 hg14 HS
  refine St.stores (cs' := ((nums .u8 zpg))) HS ((nums .u8 zpg)) 256 rfl rfl (nums_one _ _) (by kernel_rfl) (by simp [nums_length, zlen]) (by simp [nums_length, zlen]) (lay_all _ _ (by simp [nums_length, zlen])) ?_
  clear HS
  intro w15 HS
  refine wpList_nil ?_
  refine fr_at (l' := [.int .u8 c, undef, .pointer (some ⟨g5, 0, none⟩), .pointer (some ⟨g12, 0, none⟩), undef, .agg ((nums .u8 zpg)).toArray, undef, undef, undef, undef, undef, undef, undef, undef]) rfl ?_
  refine hK9 _ _ ?_
  refine wp_seq_k (fun K16 hK17 => ?_)
  refine wp_seq_k (fun K18 hK19 => ?_)
  refine c_region (fun ops21 hops20 => ?_)
  clear hops20
  refine p_run (l' := _) _ (x_move (.int .i64 0) rfl rfl) rfl ?_
  refine wpList_nil ?_
  refine fr_at (l' := [.int .u8 c, undef, .pointer (some ⟨g5, 0, none⟩), .pointer (some ⟨g12, 0, none⟩), undef, .agg ((nums .u8 zpg)).toArray, .int .i64 0, undef, undef, undef, undef, undef, undef, undef]) rfl ?_
  refine hK19 _ _ ?_
  refine wp_block ?_
  refine c_loop (ι := Nat) (fun i_ a_ w_ => match i_ with | j => ∃ (u4 : Value) (u7 : Value) (u8 : Value) (u9 : Value) (u10 : Value) (u11 : Value) (u12 : Value), a_ = fr [.int .u8 c, undef, .pointer (some ⟨g5, 0, none⟩), .pointer (some ⟨g12, 0, none⟩), u4, .agg ((nums .u8 zpg)).toArray, .int .i64 (j : Int), u7, u8, u9, u10, u11, u12, undef] ∧ St w0 F w_ (blk g12 ((nums .u8 (fillN c j))) 31 :: blk g5 ((nums .u8 zpg)) 31 :: L) ∧ (j ≤ 256)) (fun i_ => match i_ with | j => 256 - j) 0 ?_ ?_
  · exact ⟨_, _, _, _, _, _, _, rfl, ((HS.front 1 rfl).front 1 rfl), (by omega)⟩
  · clear HS
    rintro j a_ w24 ⟨u4, u7, u8, u9, u10, u11, u12, rfl, HS, hI⟩ J22 hJ23
    have hj := hI
    refine wp_seq_k (fun K25 hK26 => ?_)
    refine c_region (fun ops28 hops27 => ?_)
    clear hops27
    refine p_run (l' := _) _ (x_cmp (k := .i64) (m := (j : Int)) (n := 256) .lss (decide ((j : Int) < 256)) rfl rfl rfl rfl rfl) rfl ?_
    refine wpList_nil ?_
    refine fr_at (l' := [.int .u8 c, undef, .pointer (some ⟨g5, 0, none⟩), .pointer (some ⟨g12, 0, none⟩), u4, .agg ((nums .u8 zpg)).toArray, .int .i64 (j : Int), .bool (decide ((j : Int) < 256)), u8, u9, u10, u11, u12, undef]) rfl ?_
    refine hK26 _ _ ?_
    refine wp_seq_k (fun K29 hK30 => ?_)
    refine c_cond (t := decide ((j : Int) < 256)) rfl (fun hc31 => ?_) (fun hc31 => ?_)
    · have hlt : j < 256 := by have := of_decide_eq_true hc31; omega
      refine wp_skip ?_
      refine hK30 _ _ ?_
      refine wp_seq_k (fun K32 hK33 => ?_)
      refine wp_block ?_
      refine wp_seq_k (fun K34 hK35 => ?_)
      refine c_region (fun ops37 hops36 => ?_)
      clear hops36
      refine p_run (l' := _) _ (x_move (.int .i64 (j : Int)) rfl rfl) rfl ?_
      refine p_run (l' := _) _ (x_assign (.int .i64 (j : Int)) rfl rfl) rfl ?_
      refine wpList_nil ?_
      refine fr_at (l' := [.int .u8 c, undef, .pointer (some ⟨g5, 0, none⟩), .pointer (some ⟨g12, 0, none⟩), .int .i64 (j : Int), .agg ((nums .u8 zpg)).toArray, .int .i64 (j : Int), .bool (decide ((j : Int) < 256)), .int .i64 (j : Int), u9, u10, u11, u12, undef]) rfl ?_
      refine hK35 _ _ ?_
      refine c_region (fun ops39 hops38 => ?_)
      clear hops38
      refine p_run (l' := _) _ (x_move (.int .i64 (j : Int)) rfl rfl) rfl ?_
      refine p_run (l' := _) _ (x_move (.int .u8 c) rfl rfl) rfl ?_
      refine p_run (l' := _) _ (x_indexArr (sz := 1) (j := j) rfl rfl rfl Try.underlying31 (by kernel_rfl) (by omega) (by first | rfl | (simp; done) | (simp <;> omega) | omega)) rfl ?_
      refine St.store (cs' := (nums .u8 ((fillN c j).set j c))) HS (.int .u8 c) rfl rfl rfl (by kernel_rfl) (decide_eq_true (by simp only [nums_length, fillN_len c hj]; omega)) (nums_set _ _ _ _) ?_
      clear HS
      intro w40 HS
      refine wpList_nil ?_
      refine fr_at (l' := [.int .u8 c, undef, .pointer (some ⟨g5, 0, none⟩), .pointer (some ⟨g12, 0, none⟩), .int .i64 (j : Int), .agg ((nums .u8 zpg)).toArray, .int .i64 (j : Int), .bool (decide ((j : Int) < 256)), .int .i64 (j : Int), .int .i64 (j : Int), .int .u8 c, .pointer (some ⟨g12, j, none⟩), u12, undef]) rfl ?_
      refine hK33 _ _ ?_
      refine c_region (fun ops42 hops41 => ?_)
      clear hops41
      refine p_run (l' := _) _ (x_arith (k := .i64) (m := (j : Int)) (n := 1) .add (((j + 1 : Nat) : Int)) rfl rfl rfl (show IntKind.i64.wrap ((j : Int) + 1) = ((j + 1 : Nat) : Int) from ((wr64 (by omega)).trans (by omega))) rfl) rfl ?_
      refine p_run (l' := _) _ (x_move (.int .i64 ((j + 1 : Nat) : Int)) rfl rfl) rfl ?_
      refine wpList_nil ?_
      refine fr_at (l' := [.int .u8 c, undef, .pointer (some ⟨g5, 0, none⟩), .pointer (some ⟨g12, 0, none⟩), .int .i64 (j : Int), .agg ((nums .u8 zpg)).toArray, .int .i64 ((j + 1 : Nat) : Int), .bool (decide ((j : Int) < 256)), .int .i64 (j : Int), .int .i64 (j : Int), .int .u8 c, .pointer (some ⟨g12, j, none⟩), .int .i64 ((j + 1 : Nat) : Int), undef]) rfl ?_
      rw [fillN_set c hlt] at HS
      refine hJ23 (j + 1) _ _ ?_ ?_
      · show 256 - (j + 1) < 256 - j; omega
      · exact ⟨_, _, _, _, _, _, _, rfl, ((HS.front 1 rfl).front 1 rfl), (by omega)⟩
    · have hlt : j = 256 := by have := of_decide_eq_false hc31; omega
      subst hlt
      rw [fillN_all] at HS
      refine wp_exit ?_
      refine hK17 _ _ ?_
      refine wp_seq_k (fun K43 hK44 => ?_)
      refine c_region (fun ops46 hops45 => ?_)
      clear hops45
      refine p_run (l' := _) _ (x_loads ((nums .u8 (rep c))) 256 rfl rfl (bkCells (HS.get (.head _)) 0 _ (whole _)) (by rfl) (by kernel_rfl) (by simp [nums_length, rep_len])) rfl ?_
      refine St.stores (cs' := ((nums .u8 (rep c)))) (HS.front 1 rfl) ((nums .u8 (rep c))) 256 rfl rfl (nums_one _ _) (by kernel_rfl) (by simp [nums_length, rep_len]) (by simp [nums_length, rep_len, zlen]) (lay_all _ _ (by simp [nums_length, rep_len, zlen])) ?_
      clear HS
      intro w47 HS
      refine wpList_nil ?_
      refine fr_at (l' := [.int .u8 c, undef, .pointer (some ⟨g5, 0, none⟩), .pointer (some ⟨g12, 0, none⟩), u4, .agg ((nums .u8 zpg)).toArray, .int .i64 (256 : Int), .bool (decide ((256 : Int) < 256)), u8, u9, u10, u11, u12, .agg ((nums .u8 (rep c))).toArray]) rfl ?_
      refine hK44 _ _ ?_
      refine wp_ret ?_
      try simp only [Exit.inBlock, Exit.then]
      refine c_ret (.agg ((nums .u8 (rep c))).toArray) (r_c rfl rfl (run_loadVar_aggn (by rfl) ((nums .u8 (rep c))) 256 (by kernel_rfl) (by simp [nums_length, rep_len]) (bkCells (HS.get (.head _)) 0 _ (whole _)))) ?_
      exact ⟨rfl, HS.drop.drop⟩

set_option maxRecDepth 10000 in
set_option maxHeartbeats 1000000 in
theorem alive_any (HS : St w0 F W L) : Calls Try.prog 9 #[] W fun e w' => e = .returned (.bool true) ∧ St w0 F w' L := by
  refine c_enter Try.func9 rfl 48 rfl [undef, undef, undef, undef, undef, undef, undef, undef, undef, undef, undef, undef, undef, undef, undef, undef, undef, undef, undef, undef, undef, undef, undef, undef, undef, undef, undef, undef, undef, undef, undef, undef, undef, undef, undef, undef, undef, undef, undef, undef, undef, undef, undef, undef, undef, undef, undef, undef] rfl ?_
  refine wp_seq_k (fun K1 hK2 => ?_)
  refine c_region (fun ops4 hops3 => ?_)
  clear hops3
  refine p_run (l' := _) _ (x_assign (.bool false) rfl rfl) rfl ?_
  refine wpList_nil ?_
  refine fr_at (l' := [.bool false, undef, undef, undef, undef, undef, undef, undef, undef, undef, undef, undef, undef, undef, undef, undef, undef, undef, undef, undef, undef, undef, undef, undef, undef, undef, undef, undef, undef, undef, undef, undef, undef, undef, undef, undef, undef, undef, undef, undef, undef, undef, undef, undef, undef, undef, undef, undef]) rfl ?_
  refine hK2 _ _ ?_
  refine wp_seq_k (fun K5 hK6 => ?_)
  refine c_region (fun ops8 hops7 => ?_)
  clear hops7
  refine w_call [.int .i64 3] Try.func10 (by kernel_rfl) (by rfl) rfl ?_
  refine (new_any HS 3).mono ?_
  clear HS
  rintro e w12 ⟨D9, gs10, gm11, rfl, HS⟩
  have hgd13 := good_new 3
  refine ⟨_, rfl, ?_⟩
  refine p_run (l' := _) _ (x_assign (.pointer (some ⟨D9, 0, none⟩)) rfl rfl) rfl ?_
  refine wpList_nil ?_
  refine fr_at (l' := [.bool false, .pointer (some ⟨D9, 0, none⟩), undef, undef, .pointer (some ⟨D9, 0, none⟩), undef, undef, undef, undef, undef, undef, undef, undef, undef, undef, undef, undef, undef, undef, undef, undef, undef, undef, undef, undef, undef, undef, undef, undef, undef, undef, undef, undef, undef, undef, undef, undef, undef, undef, undef, undef, undef, undef, undef, undef, undef, undef, undef]) rfl ?_
  refine hK6 _ _ ?_
  refine wp_seq_k (fun K14 hK15 => ?_)
  refine wp_seq_k (fun K16 hK17 => ?_)
  refine c_region (fun ops19 hops18 => ?_)
  refine p_run (l' := _) _ (x_move (.pointer (some ⟨D9, 0, none⟩)) rfl rfl) rfl ?_
  refine p_run (l' := _) _ (x_eq .eql (.pointer (some ⟨D9, 0, none⟩)) (.pointer none) false false rfl rfl rfl (equal_ptrnil Try.underlying24) rfl rfl) rfl ?_
  refine p_run (l' := _) _ (x_move (.bool false) rfl rfl) rfl ?_
  refine p_on rfl (by rw [hops18]; rfl) ?_
  refine p_run (l' := [.bool false, .pointer (some ⟨D9, 0, none⟩), undef, undef, .pointer (some ⟨D9, 0, none⟩), .pointer (some ⟨D9, 0, none⟩), .bool false, .bool false, .pointer (some ⟨D9, 0, none⟩), undef, undef, undef, undef, undef, undef, undef, undef, undef, undef, undef, undef, undef, undef, undef, undef, undef, undef, undef, undef, undef, undef, undef, undef, undef, undef, undef, undef, undef, undef, undef, undef, undef, undef, undef, undef, undef, undef, undef]) _ (x_move (.pointer (some ⟨D9, 0, none⟩)) rfl rfl) rfl ?_
  refine p_on rfl (by rw [hops18]; rfl) ?_
  refine w_call [.pointer (some ⟨D9, 0, none⟩)] Try.func21 (by kernel_rfl) (by rfl) rfl ?_
  replace HS := ((((HS.front 3 rfl).front 3 rfl).front 3 rfl).front 3 rfl)
  refine (len_any HS).mono ?_
  rintro e w' ⟨rfl, rfl⟩
  refine ⟨_, rfl, ?_⟩
  refine p_on rfl (by rw [hops18]; rfl) ?_
  refine p_run (l' := _) _ (x_cmp (k := .i64) (m := ((Dk.new 3).stable.length : Int)) (n := 3) .neq false rfl rfl rfl (by kernel_rfl) rfl) rfl ?_
  refine p_run (l' := _) _ (x_pick false (.bool true) (.bool false) (.bool false) rfl rfl rfl rfl rfl) rfl ?_
  refine p_run (l' := [.bool false, .pointer (some ⟨D9, 0, none⟩), undef, undef, .pointer (some ⟨D9, 0, none⟩), .pointer (some ⟨D9, 0, none⟩), .bool false, .bool false, .pointer (some ⟨D9, 0, none⟩), .int .i64 ((Dk.new 3).stable.length : Int), .bool false, .bool false, .bool false, undef, undef, undef, undef, undef, undef, undef, undef, undef, undef, undef, undef, undef, undef, undef, undef, undef, undef, undef, undef, undef, undef, undef, undef, undef, undef, undef, undef, undef, undef, undef, undef, undef, undef, undef]) _ (x_move (.bool false) rfl rfl) rfl ?_
  refine p_on rfl (by rw [hops18]; rfl) ?_
  refine p_run (l' := _) _ (x_move (.pointer (some ⟨D9, 0, none⟩)) rfl rfl) rfl ?_
  refine p_on rfl (by rw [hops18]; rfl) ?_
  refine w_call [.int .u8 1] Try.func14 (by kernel_rfl) (by rfl) rfl ?_
  refine (full_any HS 1).mono ?_
  clear HS
  rintro e w20 ⟨rfl, HS⟩
  refine ⟨_, rfl, ?_⟩
  refine p_on rfl (by rw [hops18]; rfl) ?_
  refine w_call [.pointer (some ⟨D9, 0, none⟩), .int .i64 2, .agg ((nums .u8 (rep 1))).toArray] Try.func13 (by kernel_rfl) (by rfl) rfl ?_
  replace HS := ((((HS.front 3 rfl).front 3 rfl).front 3 rfl).front 3 rfl)
  refine (write_any HS hgd13.lft (by have := hgd13.pn; omega) 2 (rep 1) (rep_len _)).mono ?_
  clear HS
  rintro e w22 ⟨v21, rfl, HS⟩
  have hgd23 : Dk.good ((Dk.new 3).write 2 (rep 1)) (1) := good_write hgd13 2 (rep_len _)
  refine ⟨_, rfl, ?_⟩
  refine p_on rfl (by rw [hops18]; rfl) ?_
  refine p_run (l' := [.bool false, .pointer (some ⟨D9, 0, none⟩), undef, undef, .pointer (some ⟨D9, 0, none⟩), .pointer (some ⟨D9, 0, none⟩), .bool false, .bool false, .pointer (some ⟨D9, 0, none⟩), .int .i64 ((Dk.new 3).stable.length : Int), .bool false, .bool false, .bool false, .pointer (some ⟨D9, 0, none⟩), .agg ((nums .u8 (rep 1))).toArray, .int .i64 ((Dk.new 3).writeE 2), .bool false, undef, undef, undef, undef, undef, undef, undef, undef, undef, undef, undef, undef, undef, undef, undef, undef, undef, undef, undef, undef, undef, undef, undef, undef, undef, undef, undef, undef, undef, undef, undef]) _ (x_cmp (k := .i64) (m := ((Dk.new 3).writeE 2)) (n := 0) .neq false rfl rfl rfl (by kernel_rfl) rfl) rfl ?_
  refine p_run (l' := _) _ (x_pick false (.bool true) (.bool false) (.bool false) rfl rfl rfl rfl rfl) rfl ?_
  clear hops18
  refine wpList_nil ?_
  refine fr_at (l' := [.bool false, .pointer (some ⟨D9, 0, none⟩), undef, undef, .pointer (some ⟨D9, 0, none⟩), .pointer (some ⟨D9, 0, none⟩), .bool false, .bool false, .pointer (some ⟨D9, 0, none⟩), .int .i64 ((Dk.new 3).stable.length : Int), .bool false, .bool false, .bool false, .pointer (some ⟨D9, 0, none⟩), .agg ((nums .u8 (rep 1))).toArray, .int .i64 ((Dk.new 3).writeE 2), .bool false, .bool false, undef, undef, undef, undef, undef, undef, undef, undef, undef, undef, undef, undef, undef, undef, undef, undef, undef, undef, undef, undef, undef, undef, undef, undef, undef, undef, undef, undef, undef, undef]) rfl ?_
  refine hK17 _ _ ?_
  refine c_false rfl ?_
  refine wp_skip ?_
  refine hK15 _ _ ?_
  refine wp_seq_k (fun K24 hK25 => ?_)
  refine c_region (fun ops27 hops26 => ?_)
  clear hops26
  refine p_run (l' := _) _ (x_move (.pointer (some ⟨D9, 0, none⟩)) rfl rfl) rfl ?_
  refine St.wLit1 HS [.int .u8 3] 1 (.int .u8 0) (.int .u8 3) Try.underlying36 (by kernel_rfl) (by decide) rfl rfl rfl ?_
  clear HS
  intro g28 w29 hg30 HS
  refine w_call [.pointer (some ⟨D9, 0, none⟩), .slice (some ⟨g28, 0, none⟩) 1 1] Try.func16 (by kernel_rfl) (by rfl) rfl ?_
  replace HS := ((((HS.front 4 rfl).front 4 rfl).front 4 rfl).front 4 rfl)
  refine (crash_any HS hgd23.ok (by have := hgd23.pn; omega) [3] (by decide) (fun w X hx => ints_reads (hx.hs.right.1 _ (.head _)) rfl (by decide))).mono ?_
  clear HS
  rintro e w32 ⟨v31, rfl, HS⟩
  have hgd33 : Dk.good (((Dk.new 3).write 2 (rep 1)).crash [3]) (1) := good_crash hgd23 _
  refine ⟨_, rfl, ?_⟩
  refine wpList_nil ?_
  refine fr_at (l' := [.bool false, .pointer (some ⟨D9, 0, none⟩), undef, undef, .pointer (some ⟨D9, 0, none⟩), .pointer (some ⟨D9, 0, none⟩), .bool false, .bool false, .pointer (some ⟨D9, 0, none⟩), .int .i64 ((Dk.new 3).stable.length : Int), .bool false, .bool false, .bool false, .pointer (some ⟨D9, 0, none⟩), .agg ((nums .u8 (rep 1))).toArray, .int .i64 ((Dk.new 3).writeE 2), .bool false, .bool false, .pointer (some ⟨D9, 0, none⟩), .slice (some ⟨g28, 0, none⟩) 1 1, .tuple [].toArray, undef, undef, undef, undef, undef, undef, undef, undef, undef, undef, undef, undef, undef, undef, undef, undef, undef, undef, undef, undef, undef, undef, undef, undef, undef, undef, undef]) rfl ?_
  refine hK25 _ _ ?_
  refine wp_seq_k (fun K34 hK35 => ?_)
  refine c_region (fun ops37 hops36 => ?_)
  clear hops36
  refine p_run (l' := _) _ (x_move (.pointer (some ⟨D9, 0, none⟩)) rfl rfl) rfl ?_
  refine w_call [.pointer (some ⟨D9, 0, none⟩), .int .i64 2] Try.func19 (by kernel_rfl) (by rfl) rfl ?_
  replace HS := ((((HS.front 3 rfl).front 3 rfl).front 3 rfl).front 3 rfl)
  refine (read_any HS hgd33.ok (by have := hgd33.pn; omega) 2).mono ?_
  clear HS
  rintro e w38 ⟨rfl, HS⟩
  refine ⟨_, rfl, ?_⟩
  refine p_run (l' := _) _ (x_move (.tuple [.agg ((nums .u8 ((((Dk.new 3).write 2 (rep 1)).crash [3]).readP 2))).toArray, .int .i64 ((((Dk.new 3).write 2 (rep 1)).crash [3]).readE 2)].toArray) rfl rfl) rfl ?_
  refine p_run (l' := [.bool false, .pointer (some ⟨D9, 0, none⟩), undef, undef, .pointer (some ⟨D9, 0, none⟩), .pointer (some ⟨D9, 0, none⟩), .bool false, .bool false, .pointer (some ⟨D9, 0, none⟩), .int .i64 ((Dk.new 3).stable.length : Int), .bool false, .bool false, .bool false, .pointer (some ⟨D9, 0, none⟩), .agg ((nums .u8 (rep 1))).toArray, .int .i64 ((Dk.new 3).writeE 2), .bool false, .bool false, .pointer (some ⟨D9, 0, none⟩), .slice (some ⟨g28, 0, none⟩) 1 1, .tuple [].toArray, .tuple [.agg ((nums .u8 ((((Dk.new 3).write 2 (rep 1)).crash [3]).readP 2))).toArray, .int .i64 ((((Dk.new 3).write 2 (rep 1)).crash [3]).readE 2)].toArray, .pointer (some ⟨D9, 0, none⟩), .tuple [.agg ((nums .u8 ((((Dk.new 3).write 2 (rep 1)).crash [3]).readP 2))).toArray, .int .i64 ((((Dk.new 3).write 2 (rep 1)).crash [3]).readE 2)].toArray, .agg ((nums .u8 ((((Dk.new 3).write 2 (rep 1)).crash [3]).readP 2))).toArray, undef, undef, undef, undef, undef, undef, undef, undef, undef, undef, undef, undef, undef, undef, undef, undef, undef, undef, undef, undef, undef, undef, undef]) _ (x_extract (vs := [.agg ((nums .u8 ((((Dk.new 3).write 2 (rep 1)).crash [3]).readP 2))).toArray, .int .i64 ((((Dk.new 3).write 2 (rep 1)).crash [3]).readE 2)]) 0 (.agg ((nums .u8 ((((Dk.new 3).write 2 (rep 1)).crash [3]).readP 2))).toArray) rfl rfl rfl) rfl ?_
  refine p_run (l' := _) _ (x_extract (vs := [.agg ((nums .u8 ((((Dk.new 3).write 2 (rep 1)).crash [3]).readP 2))).toArray, .int .i64 ((((Dk.new 3).write 2 (rep 1)).crash [3]).readE 2)]) 1 (.int .i64 ((((Dk.new 3).write 2 (rep 1)).crash [3]).readE 2)) rfl rfl rfl) rfl ?_
  refine St.wAlloc HS (cs := ((nums .u8 zpg))) (.agg ((nums .u8 zpg)).toArray) (by kernel_rfl) rfl ?_
  clear HS
  intro g39 w40 hg41 HS
  refine St.stores (cs' := ((nums .u8 ((((Dk.new 3).write 2 (rep 1)).crash [3]).readP 2)))) HS ((nums .u8 ((((Dk.new 3).write 2 (rep 1)).crash [3]).readP 2))) 256 rfl rfl (nums_one _ _) (by kernel_rfl) (by simp [nums_length, readP_len hgd33.ok]) (by simp [nums_length, readP_len hgd33.ok, zlen]) (lay_all _ _ (by simp [nums_length, readP_len hgd33.ok, zlen])) ?_
  clear HS
  intro w42 HS
  refine p_run (l' := _) _ (x_assign (.int .i64 ((((Dk.new 3).write 2 (rep 1)).crash [3]).readE 2)) rfl rfl) rfl ?_
  refine wpList_nil ?_
  refine fr_at (l' := [.bool false, .pointer (some ⟨D9, 0, none⟩), .pointer (some ⟨g39, 0, none⟩), .int .i64 ((((Dk.new 3).write 2 (rep 1)).crash [3]).readE 2), .pointer (some ⟨D9, 0, none⟩), .pointer (some ⟨D9, 0, none⟩), .bool false, .bool false, .pointer (some ⟨D9, 0, none⟩), .int .i64 ((Dk.new 3).stable.length : Int), .bool false, .bool false, .bool false, .pointer (some ⟨D9, 0, none⟩), .agg ((nums .u8 (rep 1))).toArray, .int .i64 ((Dk.new 3).writeE 2), .bool false, .bool false, .pointer (some ⟨D9, 0, none⟩), .slice (some ⟨g28, 0, none⟩) 1 1, .tuple [].toArray, .tuple [.agg ((nums .u8 ((((Dk.new 3).write 2 (rep 1)).crash [3]).readP 2))).toArray, .int .i64 ((((Dk.new 3).write 2 (rep 1)).crash [3]).readE 2)].toArray, .pointer (some ⟨D9, 0, none⟩), .tuple [.agg ((nums .u8 ((((Dk.new 3).write 2 (rep 1)).crash [3]).readP 2))).toArray, .int .i64 ((((Dk.new 3).write 2 (rep 1)).crash [3]).readE 2)].toArray, .agg ((nums .u8 ((((Dk.new 3).write 2 (rep 1)).crash [3]).readP 2))).toArray, .int .i64 ((((Dk.new 3).write 2 (rep 1)).crash [3]).readE 2), undef, undef, undef, undef, undef, undef, undef, undef, undef, undef, undef, undef, undef, undef, undef, undef, undef, undef, undef, undef, undef, undef]) rfl ?_
  refine hK35 _ _ ?_
  refine wp_seq_k (fun K43 hK44 => ?_)
  refine c_region (fun ops46 hops45 => ?_)
  refine p_run (l' := _) _ (x_move (.int .i64 ((((Dk.new 3).write 2 (rep 1)).crash [3]).readE 2)) rfl rfl) rfl ?_
  refine p_run (l' := _) _ (x_cmp (k := .i64) (m := ((((Dk.new 3).write 2 (rep 1)).crash [3]).readE 2)) (n := 0) .eql true rfl rfl rfl (by kernel_rfl) rfl) rfl ?_
  refine p_run (l' := _) _ (x_move (.bool true) rfl rfl) rfl ?_
  refine p_on rfl (by rw [hops45]; rfl) ?_
  refine p_run (l' := [.bool false, .pointer (some ⟨D9, 0, none⟩), .pointer (some ⟨g39, 0, none⟩), .int .i64 ((((Dk.new 3).write 2 (rep 1)).crash [3]).readE 2), .pointer (some ⟨D9, 0, none⟩), .pointer (some ⟨D9, 0, none⟩), .bool false, .bool false, .pointer (some ⟨D9, 0, none⟩), .int .i64 ((Dk.new 3).stable.length : Int), .bool false, .bool false, .bool false, .pointer (some ⟨D9, 0, none⟩), .agg ((nums .u8 (rep 1))).toArray, .int .i64 ((Dk.new 3).writeE 2), .bool false, .bool false, .pointer (some ⟨D9, 0, none⟩), .slice (some ⟨g28, 0, none⟩) 1 1, .tuple [].toArray, .tuple [.agg ((nums .u8 ((((Dk.new 3).write 2 (rep 1)).crash [3]).readP 2))).toArray, .int .i64 ((((Dk.new 3).write 2 (rep 1)).crash [3]).readE 2)].toArray, .pointer (some ⟨D9, 0, none⟩), .tuple [.agg ((nums .u8 ((((Dk.new 3).write 2 (rep 1)).crash [3]).readP 2))).toArray, .int .i64 ((((Dk.new 3).write 2 (rep 1)).crash [3]).readE 2)].toArray, .agg ((nums .u8 ((((Dk.new 3).write 2 (rep 1)).crash [3]).readP 2))).toArray, .int .i64 ((((Dk.new 3).write 2 (rep 1)).crash [3]).readE 2), .int .i64 ((((Dk.new 3).write 2 (rep 1)).crash [3]).readE 2), .bool true, .bool true, .pointer (some ⟨g39, 0, none⟩), undef, undef, undef, undef, undef, undef, undef, undef, undef, undef, undef, undef, undef, undef, undef, undef, undef, undef]) _ (x_indexArr (sz := 1) (j := 0) rfl rfl rfl Try.underlying31 (by kernel_rfl) (by omega) rfl) rfl ?_
  refine p_on rfl (by rw [hops45]; rfl) ?_
  refine p_run (l' := _) _ (x_load (.int .u8 (((((Dk.new 3).write 2 (rep 1)).crash [3]).readP 2).getD 0 0)) rfl rfl (bkCell (HS.get (.head _)) 0 _ (nums_getD (by simp only [readP_len hgd33.ok]; omega))) (by rfl)) rfl ?_
  refine p_on rfl (by rw [hops45]; rfl) ?_
  refine p_run (l' := _) _ (x_cmp (k := .u8) (m := (((((Dk.new 3).write 2 (rep 1)).crash [3]).readP 2).getD 0 0)) (n := 1) .eql true rfl rfl rfl (by kernel_rfl) rfl) rfl ?_
  refine p_run (l' := _) _ (x_pick true (.bool true) (.bool false) (.bool true) rfl rfl rfl rfl rfl) rfl ?_
  refine p_run (l' := [.bool false, .pointer (some ⟨D9, 0, none⟩), .pointer (some ⟨g39, 0, none⟩), .int .i64 ((((Dk.new 3).write 2 (rep 1)).crash [3]).readE 2), .pointer (some ⟨D9, 0, none⟩), .pointer (some ⟨D9, 0, none⟩), .bool false, .bool false, .pointer (some ⟨D9, 0, none⟩), .int .i64 ((Dk.new 3).stable.length : Int), .bool false, .bool false, .bool false, .pointer (some ⟨D9, 0, none⟩), .agg ((nums .u8 (rep 1))).toArray, .int .i64 ((Dk.new 3).writeE 2), .bool false, .bool false, .pointer (some ⟨D9, 0, none⟩), .slice (some ⟨g28, 0, none⟩) 1 1, .tuple [].toArray, .tuple [.agg ((nums .u8 ((((Dk.new 3).write 2 (rep 1)).crash [3]).readP 2))).toArray, .int .i64 ((((Dk.new 3).write 2 (rep 1)).crash [3]).readE 2)].toArray, .pointer (some ⟨D9, 0, none⟩), .tuple [.agg ((nums .u8 ((((Dk.new 3).write 2 (rep 1)).crash [3]).readP 2))).toArray, .int .i64 ((((Dk.new 3).write 2 (rep 1)).crash [3]).readE 2)].toArray, .agg ((nums .u8 ((((Dk.new 3).write 2 (rep 1)).crash [3]).readP 2))).toArray, .int .i64 ((((Dk.new 3).write 2 (rep 1)).crash [3]).readE 2), .int .i64 ((((Dk.new 3).write 2 (rep 1)).crash [3]).readE 2), .bool true, .bool true, .pointer (some ⟨g39, 0, none⟩), .int .u8 (((((Dk.new 3).write 2 (rep 1)).crash [3]).readP 2).getD 0 0), .bool true, .bool true, .bool true, undef, undef, undef, undef, undef, undef, undef, undef, undef, undef, undef, undef, undef, undef]) _ (x_move (.bool true) rfl rfl) rfl ?_
  refine p_on rfl (by rw [hops45]; rfl) ?_
  refine p_run (l' := _) _ (x_indexArr (sz := 1) (j := 63) rfl rfl rfl Try.underlying31 (by kernel_rfl) (by omega) rfl) rfl ?_
  refine p_on rfl (by rw [hops45]; rfl) ?_
  refine p_run (l' := _) _ (x_load (.int .u8 (((((Dk.new 3).write 2 (rep 1)).crash [3]).readP 2).getD 63 0)) rfl rfl (bkCell (HS.get (.head _)) 63 _ (nums_getD (by simp only [readP_len hgd33.ok]; omega))) (by rfl)) rfl ?_
  refine p_on rfl (by rw [hops45]; rfl) ?_
  refine p_run (l' := _) _ (x_cmp (k := .u8) (m := (((((Dk.new 3).write 2 (rep 1)).crash [3]).readP 2).getD 63 0)) (n := 1) .eql true rfl rfl rfl (by kernel_rfl) rfl) rfl ?_
  refine p_run (l' := [.bool false, .pointer (some ⟨D9, 0, none⟩), .pointer (some ⟨g39, 0, none⟩), .int .i64 ((((Dk.new 3).write 2 (rep 1)).crash [3]).readE 2), .pointer (some ⟨D9, 0, none⟩), .pointer (some ⟨D9, 0, none⟩), .bool false, .bool false, .pointer (some ⟨D9, 0, none⟩), .int .i64 ((Dk.new 3).stable.length : Int), .bool false, .bool false, .bool false, .pointer (some ⟨D9, 0, none⟩), .agg ((nums .u8 (rep 1))).toArray, .int .i64 ((Dk.new 3).writeE 2), .bool false, .bool false, .pointer (some ⟨D9, 0, none⟩), .slice (some ⟨g28, 0, none⟩) 1 1, .tuple [].toArray, .tuple [.agg ((nums .u8 ((((Dk.new 3).write 2 (rep 1)).crash [3]).readP 2))).toArray, .int .i64 ((((Dk.new 3).write 2 (rep 1)).crash [3]).readE 2)].toArray, .pointer (some ⟨D9, 0, none⟩), .tuple [.agg ((nums .u8 ((((Dk.new 3).write 2 (rep 1)).crash [3]).readP 2))).toArray, .int .i64 ((((Dk.new 3).write 2 (rep 1)).crash [3]).readE 2)].toArray, .agg ((nums .u8 ((((Dk.new 3).write 2 (rep 1)).crash [3]).readP 2))).toArray, .int .i64 ((((Dk.new 3).write 2 (rep 1)).crash [3]).readE 2), .int .i64 ((((Dk.new 3).write 2 (rep 1)).crash [3]).readE 2), .bool true, .bool true, .pointer (some ⟨g39, 0, none⟩), .int .u8 (((((Dk.new 3).write 2 (rep 1)).crash [3]).readP 2).getD 0 0), .bool true, .bool true, .bool true, .pointer (some ⟨g39, 63, none⟩), .int .u8 (((((Dk.new 3).write 2 (rep 1)).crash [3]).readP 2).getD 63 0), .bool true, .bool true, undef, undef, undef, undef, undef, undef, undef, undef, undef, undef]) _ (x_pick true (.bool true) (.bool false) (.bool true) rfl rfl rfl rfl rfl) rfl ?_
  refine p_run (l' := _) _ (x_move (.bool true) rfl rfl) rfl ?_
  refine p_on rfl (by rw [hops45]; rfl) ?_
  refine p_run (l' := _) _ (x_indexArr (sz := 1) (j := 64) rfl rfl rfl Try.underlying31 (by kernel_rfl) (by omega) rfl) rfl ?_
  refine p_on rfl (by rw [hops45]; rfl) ?_
  refine p_run (l' := _) _ (x_load (.int .u8 (((((Dk.new 3).write 2 (rep 1)).crash [3]).readP 2).getD 64 0)) rfl rfl (bkCell (HS.get (.head _)) 64 _ (nums_getD (by simp only [readP_len hgd33.ok]; omega))) (by rfl)) rfl ?_
  refine p_on rfl (by rw [hops45]; rfl) ?_
  refine p_run (l' := [.bool false, .pointer (some ⟨D9, 0, none⟩), .pointer (some ⟨g39, 0, none⟩), .int .i64 ((((Dk.new 3).write 2 (rep 1)).crash [3]).readE 2), .pointer (some ⟨D9, 0, none⟩), .pointer (some ⟨D9, 0, none⟩), .bool false, .bool false, .pointer (some ⟨D9, 0, none⟩), .int .i64 ((Dk.new 3).stable.length : Int), .bool false, .bool false, .bool false, .pointer (some ⟨D9, 0, none⟩), .agg ((nums .u8 (rep 1))).toArray, .int .i64 ((Dk.new 3).writeE 2), .bool false, .bool false, .pointer (some ⟨D9, 0, none⟩), .slice (some ⟨g28, 0, none⟩) 1 1, .tuple [].toArray, .tuple [.agg ((nums .u8 ((((Dk.new 3).write 2 (rep 1)).crash [3]).readP 2))).toArray, .int .i64 ((((Dk.new 3).write 2 (rep 1)).crash [3]).readE 2)].toArray, .pointer (some ⟨D9, 0, none⟩), .tuple [.agg ((nums .u8 ((((Dk.new 3).write 2 (rep 1)).crash [3]).readP 2))).toArray, .int .i64 ((((Dk.new 3).write 2 (rep 1)).crash [3]).readE 2)].toArray, .agg ((nums .u8 ((((Dk.new 3).write 2 (rep 1)).crash [3]).readP 2))).toArray, .int .i64 ((((Dk.new 3).write 2 (rep 1)).crash [3]).readE 2), .int .i64 ((((Dk.new 3).write 2 (rep 1)).crash [3]).readE 2), .bool true, .bool true, .pointer (some ⟨g39, 0, none⟩), .int .u8 (((((Dk.new 3).write 2 (rep 1)).crash [3]).readP 2).getD 0 0), .bool true, .bool true, .bool true, .pointer (some ⟨g39, 63, none⟩), .int .u8 (((((Dk.new 3).write 2 (rep 1)).crash [3]).readP 2).getD 63 0), .bool true, .bool true, .bool true, .pointer (some ⟨g39, 64, none⟩), .int .u8 (((((Dk.new 3).write 2 (rep 1)).crash [3]).readP 2).getD 64 0), .bool true, undef, undef, undef, undef, undef, undef]) _ (x_cmp (k := .u8) (m := (((((Dk.new 3).write 2 (rep 1)).crash [3]).readP 2).getD 64 0)) (n := 0) .eql true rfl rfl rfl (by kernel_rfl) rfl) rfl ?_
  refine p_run (l' := _) _ (x_pick true (.bool true) (.bool false) (.bool true) rfl rfl rfl rfl rfl) rfl ?_
  refine p_run (l' := _) _ (x_move (.bool true) rfl rfl) rfl ?_
  refine p_on rfl (by rw [hops45]; rfl) ?_
  refine p_run (l' := _) _ (x_indexArr (sz := 1) (j := 255) rfl rfl rfl Try.underlying31 (by kernel_rfl) (by omega) rfl) rfl ?_
  refine p_on rfl (by rw [hops45]; rfl) ?_
  refine p_run (l' := [.bool false, .pointer (some ⟨D9, 0, none⟩), .pointer (some ⟨g39, 0, none⟩), .int .i64 ((((Dk.new 3).write 2 (rep 1)).crash [3]).readE 2), .pointer (some ⟨D9, 0, none⟩), .pointer (some ⟨D9, 0, none⟩), .bool false, .bool false, .pointer (some ⟨D9, 0, none⟩), .int .i64 ((Dk.new 3).stable.length : Int), .bool false, .bool false, .bool false, .pointer (some ⟨D9, 0, none⟩), .agg ((nums .u8 (rep 1))).toArray, .int .i64 ((Dk.new 3).writeE 2), .bool false, .bool false, .pointer (some ⟨D9, 0, none⟩), .slice (some ⟨g28, 0, none⟩) 1 1, .tuple [].toArray, .tuple [.agg ((nums .u8 ((((Dk.new 3).write 2 (rep 1)).crash [3]).readP 2))).toArray, .int .i64 ((((Dk.new 3).write 2 (rep 1)).crash [3]).readE 2)].toArray, .pointer (some ⟨D9, 0, none⟩), .tuple [.agg ((nums .u8 ((((Dk.new 3).write 2 (rep 1)).crash [3]).readP 2))).toArray, .int .i64 ((((Dk.new 3).write 2 (rep 1)).crash [3]).readE 2)].toArray, .agg ((nums .u8 ((((Dk.new 3).write 2 (rep 1)).crash [3]).readP 2))).toArray, .int .i64 ((((Dk.new 3).write 2 (rep 1)).crash [3]).readE 2), .int .i64 ((((Dk.new 3).write 2 (rep 1)).crash [3]).readE 2), .bool true, .bool true, .pointer (some ⟨g39, 0, none⟩), .int .u8 (((((Dk.new 3).write 2 (rep 1)).crash [3]).readP 2).getD 0 0), .bool true, .bool true, .bool true, .pointer (some ⟨g39, 63, none⟩), .int .u8 (((((Dk.new 3).write 2 (rep 1)).crash [3]).readP 2).getD 63 0), .bool true, .bool true, .bool true, .pointer (some ⟨g39, 64, none⟩), .int .u8 (((((Dk.new 3).write 2 (rep 1)).crash [3]).readP 2).getD 64 0), .bool true, .bool true, .bool true, .pointer (some ⟨g39, 255, none⟩), .int .u8 (((((Dk.new 3).write 2 (rep 1)).crash [3]).readP 2).getD 255 0), undef, undef]) _ (x_load (.int .u8 (((((Dk.new 3).write 2 (rep 1)).crash [3]).readP 2).getD 255 0)) rfl rfl (bkCell (HS.get (.head _)) 255 _ (nums_getD (by simp only [readP_len hgd33.ok]; omega))) (by rfl)) rfl ?_
  refine p_on rfl (by rw [hops45]; rfl) ?_
  refine p_run (l' := _) _ (x_cmp (k := .u8) (m := (((((Dk.new 3).write 2 (rep 1)).crash [3]).readP 2).getD 255 0)) (n := 0) .eql true rfl rfl rfl (by kernel_rfl) rfl) rfl ?_
  refine p_run (l' := _) _ (x_pick true (.bool true) (.bool false) (.bool true) rfl rfl rfl rfl rfl) rfl ?_
  refine p_run (l' := _) _ (x_assign (.bool true) rfl rfl) rfl ?_
  clear hops45
  refine wpList_nil ?_
  refine fr_at (l' := [.bool true, .pointer (some ⟨D9, 0, none⟩), .pointer (some ⟨g39, 0, none⟩), .int .i64 ((((Dk.new 3).write 2 (rep 1)).crash [3]).readE 2), .pointer (some ⟨D9, 0, none⟩), .pointer (some ⟨D9, 0, none⟩), .bool false, .bool false, .pointer (some ⟨D9, 0, none⟩), .int .i64 ((Dk.new 3).stable.length : Int), .bool false, .bool false, .bool false, .pointer (some ⟨D9, 0, none⟩), .agg ((nums .u8 (rep 1))).toArray, .int .i64 ((Dk.new 3).writeE 2), .bool false, .bool false, .pointer (some ⟨D9, 0, none⟩), .slice (some ⟨g28, 0, none⟩) 1 1, .tuple [].toArray, .tuple [.agg ((nums .u8 ((((Dk.new 3).write 2 (rep 1)).crash [3]).readP 2))).toArray, .int .i64 ((((Dk.new 3).write 2 (rep 1)).crash [3]).readE 2)].toArray, .pointer (some ⟨D9, 0, none⟩), .tuple [.agg ((nums .u8 ((((Dk.new 3).write 2 (rep 1)).crash [3]).readP 2))).toArray, .int .i64 ((((Dk.new 3).write 2 (rep 1)).crash [3]).readE 2)].toArray, .agg ((nums .u8 ((((Dk.new 3).write 2 (rep 1)).crash [3]).readP 2))).toArray, .int .i64 ((((Dk.new 3).write 2 (rep 1)).crash [3]).readE 2), .int .i64 ((((Dk.new 3).write 2 (rep 1)).crash [3]).readE 2), .bool true, .bool true, .pointer (some ⟨g39, 0, none⟩), .int .u8 (((((Dk.new 3).write 2 (rep 1)).crash [3]).readP 2).getD 0 0), .bool true, .bool true, .bool true, .pointer (some ⟨g39, 63, none⟩), .int .u8 (((((Dk.new 3).write 2 (rep 1)).crash [3]).readP 2).getD 63 0), .bool true, .bool true, .bool true, .pointer (some ⟨g39, 64, none⟩), .int .u8 (((((Dk.new 3).write 2 (rep 1)).crash [3]).readP 2).getD 64 0), .bool true, .bool true, .bool true, .pointer (some ⟨g39, 255, none⟩), .int .u8 (((((Dk.new 3).write 2 (rep 1)).crash [3]).readP 2).getD 255 0), .bool true, .bool true]) rfl ?_
  refine hK44 _ _ ?_
  refine wp_ret ?_
  try simp only [Exit.inBlock, Exit.then]
  refine c_ret (.bool true) (r_tmp rfl rfl) ?_
  exact ⟨rfl, HS.drop.drop.drop.drop.drop.drop⟩
end
end Go.Proofs.Ytjholgfaipfmbaa
