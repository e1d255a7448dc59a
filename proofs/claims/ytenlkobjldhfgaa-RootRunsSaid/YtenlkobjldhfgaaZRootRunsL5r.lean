/- RootRuns. -/
import Derived.Test.YtenlkobjldhfgaaZRootRunsL5g
import Derived.Test.YtenlkobjldhfgaaZRootRunsRfB
import Derived.Test.YtenlkobjldhfgaaZRootRunsV8
set_option linter.unusedVariables false
set_option linter.unusedSimpArgs false
namespace Go.Proofs.Ytenlkobjldhfgaa
open Go.RowKit Go.Proofs.YtenlkobjldhfgaaW.PrintWords Go.Proofs.YtenlkobjldhfgaaW.PrintLast Crc
abbrev U4l5r (l : List Value) : List Value := undef :: undef :: undef :: undef :: l
abbrev U8l5r (l : List Value) : List Value := U4l5r (U4l5r l)
abbrev U16l5r (l : List Value) : List Value := U8l5r (U8l5r l)
abbrev U32l5r (l : List Value) : List Value := U16l5r (U16l5r l)
abbrev U64l5r (l : List Value) : List Value := U32l5r (U32l5r l)
set_option maxRecDepth 10000 in
set_option maxHeartbeats 40000000 in
theorem rruns_law (w : World) (pages : Int) (A0 : Option Addr) (c0 : Nat) (l0 : List rAT) (hr0 : krA.C w A0 l0.length l0) (hg0 : ∀ y ∈ l0, rAG y) (hm : l0.length ≤ 9223372036854775807) : Calls Try.prog 7 #[.int .i64 pages, .slice A0 l0.length c0] w fun e w' => e = .returned (.bool true) ∧ Below w.heap.size w w' := by
 have HS := St.empty w
 by_cases h20 : pages > 20
 ·have h0 := decide_eq_true h20
  refine c_enter Try.func7 rfl 211 rfl (.int .i64 pages :: .slice A0 l0.length c0 :: U64l5r (U64l5r (U64l5r (U16l5r (undef :: []))))) rfl ?_
  refine wp_seq_k (fun K1 hK2 => ?_)
  refine c_region (fun ops4 hops3 => ?_)
  clear hops3
  refine p_run _ (x_assign (.bool false) rfl rfl) rfl ?_
  refine wpList_nil ?_
  refine hK2 _ _ ?_
  refine wp_seq_k (fun K5 hK6 => ?_)
  refine wp_seq_k (fun K7 hK8 => ?_)
  refine c_region (fun ops10 hops9 => ?_)
  clear hops9
  refine w_call [] Try.func12 (by kernel_rfl) (by rfl) rfl ?_
  refine (ralive_any _).mono ?_
  rintro e w11 ⟨rfl, hb_⟩
  replace HS := HS.here hb_
  clear hb_
  refine ⟨_, rfl, ?_⟩
  refine p_run _ (x_not true rfl rfl) rfl ?_
  refine wpList_nil ?_
  refine hK8 _ _ ?_
  refine c_false rfl ?_
  refine wp_skip ?_
  refine hK6 _ _ ?_
  refine wp_seq_k (fun K12 hK13 => ?_)
  refine wp_seq_k (fun K14 hK15 => ?_)
  refine c_region (fun ops17 hops16 => ?_)
  refine p_run _ (x_move (.int .i64 pages) rfl rfl) rfl ?_
  refine p_run _ (x_cmp (k := .i64) (m := pages) (n := 20) .gtr true rfl rfl rfl h0 rfl) rfl ?_
  refine p_run _ (x_move (.bool true) rfl rfl) rfl ?_
  refine p_off (by rw [hops16]; rfl) rfl ?_
  refine p_off (l' := (.int .i64 pages :: .slice A0 l0.length c0 :: undef :: undef :: .bool false :: U16l5r (U4l5r (undef :: undef :: undef :: .bool true :: .bool false :: .int .i64 pages :: .bool true :: .bool true :: U64l5r (U64l5r (U32l5r (U16l5r (undef :: undef :: [])))))))) (by rw [hops16]; rfl) rfl ?_
  refine p_run _ (x_pick true (.bool true) (undef) (.bool true) rfl rfl rfl rfl rfl) rfl ?_
  clear hops16
  refine wpList_nil ?_
  refine hK15 _ _ ?_
  refine c_true rfl ?_
  refine wp_seq_k (fun K18 hK19 => ?_)
  refine c_region (fun ops21 hops20 => ?_)
  clear hops20
  refine p_run _ (x_assign (.bool true) rfl rfl) rfl ?_
  refine wpList_nil ?_
  refine hK19 _ _ ?_
  refine wp_ret ?_
  try simp only [Exit.inBlock, Exit.then]
  refine c_ret (.bool true) (r_tmp rfl rfl) ?_
  exact ⟨rfl, HS.belowOf⟩
 ·have h0 := decide_eq_false h20
  rcases hgr : grB l0 with _ | _
  ·refine c_enter Try.func7 rfl 211 rfl (.int .i64 pages :: .slice A0 l0.length c0 :: U64l5r (U64l5r (U64l5r (U16l5r (undef :: []))))) rfl ?_
   refine wp_seq_k (fun K1 hK2 => ?_)
   refine c_region (fun ops4 hops3 => ?_)
   clear hops3
   refine p_run _ (x_assign (.bool false) rfl rfl) rfl ?_
   refine wpList_nil ?_
   refine hK2 _ _ ?_
   refine wp_seq_k (fun K5 hK6 => ?_)
   refine wp_seq_k (fun K7 hK8 => ?_)
   refine c_region (fun ops10 hops9 => ?_)
   clear hops9
   refine w_call [] Try.func12 (by kernel_rfl) (by rfl) rfl ?_
   refine (ralive_any _).mono ?_
   rintro e w11 ⟨rfl, hb_⟩
   replace HS := HS.here hb_
   clear hb_
   refine ⟨_, rfl, ?_⟩
   refine p_run _ (x_not true rfl rfl) rfl ?_
   refine wpList_nil ?_
   refine hK8 _ _ ?_
   refine c_false rfl ?_
   refine wp_skip ?_
   refine hK6 _ _ ?_
   refine wp_seq_k (fun K12 hK13 => ?_)
   refine wp_seq_k (fun K14 hK15 => ?_)
   refine c_region (fun ops17 hops16 => ?_)
   refine p_run _ (x_move (.int .i64 pages) rfl rfl) rfl ?_
   refine p_run _ (x_cmp (k := .i64) (m := pages) (n := 20) .gtr false rfl rfl rfl h0 rfl) rfl ?_
   refine p_run _ (x_move (.bool false) rfl rfl) rfl ?_
   refine p_on rfl (by rw [hops16]; rfl) ?_
   refine p_run _ (x_move (.slice A0 l0.length c0) rfl rfl) rfl ?_
   refine p_on rfl (by rw [hops16]; rfl) ?_
   refine w_call [.slice A0 l0.length c0] Try.func15 (by kernel_rfl) (by rfl) rfl ?_
   refine (great_any _ A0 c0 l0 (Kd.C_below hr0 HS.belowOf) hm).mono ?_
   rintro e w18 ⟨he_, hb_⟩
   rw [hgr] at he_
   subst he_
   replace HS := HS.here hb_
   clear hb_
   refine ⟨_, rfl, ?_⟩
   refine fr_to (l' := (.int .i64 pages :: .slice A0 l0.length c0 :: undef :: undef :: .bool false :: U16l5r (U4l5r (undef :: undef :: undef :: .bool true :: .bool false :: .int .i64 pages :: .bool false :: .bool false :: .slice A0 l0.length c0 :: .bool false :: U64l5r (U64l5r (U32l5r (U16l5r ([])))))))) rfl ?_
   refine p_run _ (x_pick false (.bool true) (.bool false) (.bool false) rfl rfl rfl rfl rfl) rfl ?_
   clear hops16
   refine wpList_nil ?_
   refine hK15 _ _ ?_
   refine c_false rfl ?_
   refine wp_skip ?_
   refine hK13 _ _ ?_
   refine wp_seq_k (fun K19 hK20 => ?_)
   refine c_region (fun ops22 hops21 => ?_)
   clear hops21
   refine p_run _ (x_move (.int .i64 pages) rfl rfl) rfl ?_
   refine w_call [.int .i64 pages] Try.func8 (by kernel_rfl) (by rfl) rfl ?_
   refine (dnew_any HS pages).mono ?_
   clear HS
   rintro e w26 ⟨D23, gs24, gm25, rfl, HS⟩
   have hgd27 := good_new pages
   refine ⟨_, rfl, ?_⟩
   refine p_run _ (x_assign (.pointer (some ⟨D23, 0, none⟩)) rfl rfl) rfl ?_
   refine wpList_nil ?_
   refine hK20 _ _ ?_
   refine wp_seq_k (fun K28 hK29 => ?_)
   refine c_region (fun ops31 hops30 => ?_)
   clear hops30
   refine p_run _ (x_move (.int .i64 pages) rfl rfl) rfl ?_
   refine w_call [.int .i64 pages] Try.func18 (by kernel_rfl) (by rfl) rfl ?_
   refine (rkNew_any HS pages).mono ?_
   clear HS
   rintro e w34 ⟨v32, v33, rfl, HS⟩
   refine ⟨_, rfl, ?_⟩
   refine St.wAlloc HS (cs := [.slice none 0 0, .slice none 0 0, .slice none 0 0, .bool false, .int .i64 0, .bool false]) (.agg [.slice none 0 0, .slice none 0 0, .slice none 0 0, .bool false, .int .i64 0, .bool false].toArray) (by kernel_rfl) rfl ?_
   clear HS
   intro g35 w36 hg37 HS
   refine St.stores (cs' := [v32, v33, .slice none 0 0, .bool ((Rk.new pages).counted), .int .i64 ((Rk.new pages).left), .bool ((Rk.new pages).down)]) HS [v32, v33, .slice none 0 0, .bool ((Rk.new pages).counted), .int .i64 ((Rk.new pages).left), .bool ((Rk.new pages).down)] 6 rfl rfl (all1 (row_one (HS.get (.tail _ (.head _)))) (all1 (row_one (HS.get (.tail _ (.tail _ (.head _))))) (all1 rfl (all1 rfl (all1 rfl (all1 rfl rfl)))))) (by kernel_rfl) rfl (by simp) rfl ?_
   clear HS
   intro w38 HS
   refine wpList_nil ?_
   obtain ⟨qz39, hqz39⟩ : ∃ q_ : V8, q_ = ⟨.bool false, .slice A0 l0.length c0, .bool false, .bool false, .int .i64 pages, .pointer (some ⟨D23, 0, none⟩), .int .i64 pages, rkV v32 v33 (.slice none 0 0) (Rk.new pages)⟩ := ⟨_, rfl⟩
   refine fr_at (l' := (.int .i64 pages :: .slice A0 l0.length c0 :: undef :: undef :: .bool false :: .pointer (some ⟨D23, 0, none⟩) :: .pointer (some ⟨g35, 0, none⟩) :: U16l5r (U4l5r (undef :: .bool true :: .bool false :: .int .i64 pages :: .bool false :: V8.l qz39 (U64l5r (U64l5r (U32l5r (U8l5r (undef :: undef :: undef :: []))))))))) (by subst hqz39; rfl) ?_
   refine hK29 _ _ ?_
   refine wp_seq_k (fun K40 hK41 => ?_)
   refine wp_seq_k (fun K42 hK43 => ?_)
   refine c_region (fun ops45 hops44 => ?_)
   clear hops44
   refine p_run _ (x_move (.slice A0 l0.length c0) rfl rfl) rfl ?_
   refine p_run _ (x_len rfl rfl Try.underlying43) rfl ?_
   refine p_run _ (x_move (.int .i64 0) rfl rfl) rfl ?_
   refine wpList_nil ?_
   refine fr_at (l' := (.int .i64 pages :: .slice A0 l0.length c0 :: undef :: undef :: .bool false :: .pointer (some ⟨D23, 0, none⟩) :: .pointer (some ⟨g35, 0, none⟩) :: U16l5r (U4l5r (undef :: .bool true :: .bool false :: .int .i64 pages :: .bool false :: V8.l qz39 (.slice A0 l0.length c0 :: .int .i64 (l0.length : Int) :: .int .i64 0 :: U64l5r (U64l5r (U32l5r (U8l5r ([]))))))))) rfl ?_
   refine hK43 _ _ ?_
   refine wp_block ?_
   refine c_loop (ι := Nat × Dk × Rk × Value × Value × Value × Value) (fun i_ a_ w_ => match i_ with | (i, S, R, v, vs, vb, vp) => ∃ (q46 : V8) (q47 : V8) (q48 : V8) (q49 : V8) (q50 : V8) (q51 : V8) (q52 : V8) (q53 : V8) (q54 : V8) (q55 : V8) (q56 : V8) (q57 : V8) (q58 : V8) (q59 : V8) (q60 : V8) (q61 : V8) (q62 : V8) (q63 : V8) (q64 : V8) (q65 : V8) (q66 : V8), a_ = fr (.int .i64 pages :: .slice A0 l0.length c0 :: undef :: undef :: q46.a :: .pointer (some ⟨D23, 0, none⟩) :: .pointer (some ⟨g35, 0, none⟩) :: undef :: q46.b :: q46.c :: q46.d :: q46.e :: q46.f :: q46.g :: q46.h :: V8.l q47 (q48.a :: q48.b :: undef :: undef :: undef :: .bool true :: .bool false :: .int .i64 pages :: .bool false :: V8.l qz39 (.slice A0 l0.length c0 :: .int .i64 (l0.length : Int) :: .int .i64 (i : Int) :: q48.c :: q48.d :: q48.e :: q48.f :: q48.g :: q48.h :: V8.l q49 (V8.l q50 (V8.l q51 (V8.l q52 (V8.l q53 (V8.l q54 (V8.l q55 (V8.l q56 (V8.l q57 (V8.l q58 (V8.l q59 (V8.l q60 (V8.l q61 (V8.l q62 (V8.l q63 (V8.l q64 (V8.l q65 (q66.a :: q66.b :: q66.c :: q66.d :: q66.e :: q66.f :: U16l5r (U4l5r ([])))))))))))))))))))))) ∧ St w (fun _ => False) w_ ([blk D23 (dskC gs24 gm25 v S) 72, blk gs24 (pgs S.stable) 38, mapR gm25 S.cnt S.bad, row kWr rfl 78 v S.pending, row kPg rfl 38 vs R.stable, row Kd.bool rfl 4 vb R.bad, row kWr rfl 87 vp R.pending, blk g35 [vs, vb, vp, .bool R.counted, .int .i64 R.left, .bool R.down] 53]) ∧ (RD S R ∧ S.good i ∧ BY S ∧ i ≤ l0.length)) (fun i_ => match i_ with | (i, S, R, v, vs, vb, vp) => l0.length - i) (0, (Dk.new pages), (Rk.new pages), .slice none 0 0, v32, v33, .slice none 0 0) ?_ ?_
   ·exact ⟨⟨.bool false, undef, undef, undef, undef, undef, undef, undef⟩, ⟨undef, undef, undef, undef, undef, undef, undef, undef⟩, ⟨undef, undef, undef, undef, undef, undef, undef, undef⟩, ⟨undef, undef, undef, undef, undef, undef, undef, undef⟩, ⟨undef, undef, undef, undef, undef, undef, undef, undef⟩, ⟨undef, undef, undef, undef, undef, undef, undef, undef⟩, ⟨undef, undef, undef, undef, undef, undef, undef, undef⟩, ⟨undef, undef, undef, undef, undef, undef, undef, undef⟩, ⟨undef, undef, undef, undef, undef, undef, undef, undef⟩, ⟨undef, undef, undef, undef, undef, undef, undef, undef⟩, ⟨undef, undef, undef, undef, undef, undef, undef, undef⟩, ⟨undef, undef, undef, undef, undef, undef, undef, undef⟩, ⟨undef, undef, undef, undef, undef, undef, undef, undef⟩, ⟨undef, undef, undef, undef, undef, undef, undef, undef⟩, ⟨undef, undef, undef, undef, undef, undef, undef, undef⟩, ⟨undef, undef, undef, undef, undef, undef, undef, undef⟩, ⟨undef, undef, undef, undef, undef, undef, undef, undef⟩, ⟨undef, undef, undef, undef, undef, undef, undef, undef⟩, ⟨undef, undef, undef, undef, undef, undef, undef, undef⟩, ⟨undef, undef, undef, undef, undef, undef, undef, undef⟩, ⟨undef, undef, undef, undef, undef, undef, undef, undef⟩, rfl, (((((((HS.front 3 rfl).front 3 rfl).front 3 rfl).front 7 rfl).front 7 rfl).front 7 rfl).front 7 rfl), ⟨rd_new pages, good_new pages, by_new pages, Nat.zero_le _⟩⟩
   ·clear HS
    rintro ⟨i, S, R, v, vs, vb, vp⟩ a_ w69 ⟨q46, q47, q48, q49, q50, q51, q52, q53, q54, q55, q56, q57, q58, q59, q60, q61, q62, q63, q64, q65, q66, rfl, HS, hI⟩ J67 hJ68
    obtain ⟨hRD, hG, hBY, hil⟩ := hI
    have hl40 := (gr_small hgr).1
    refine wp_seq_k (fun K70 hK71 => ?_)
    refine c_region (fun ops73 hops72 => ?_)
    clear hops72
    refine p_run _ (x_cmp (k := .i64) (m := (i : Int)) (n := (l0.length : Int)) .lss (decide ((i : Int) < (l0.length : Int))) rfl rfl rfl rfl rfl) rfl ?_
    refine wpList_nil ?_
    refine hK71 _ _ ?_
    refine wp_seq_k (fun K74 hK75 => ?_)
    refine c_cond (t := decide ((i : Int) < (l0.length : Int))) rfl (fun hc76 => ?_) (fun hc76 => ?_)
    ·have hlt : i < l0.length := by have := of_decide_eq_true hc76; omega
     obtain ⟨ad, ⟨kd, aa, gg, xs, kp⟩, A3, c3, A4, c4, rfl, hy, hl3, hC3, hl4, hC4, hcell0⟩ := rA_get hr0 i hlt
     have hcell := fun (j : Nat) (u : Value) (h : ([.int .i64 kd, .int .i64 aa, .int .u64 gg, .slice A3 xs.length c3, .slice A4 kp.length c4] : List Value)[j]? = some u) => rcell_below HS.belowOf (hcell0 j u h)
     have hRO := rd_ok hRD hG
     obtain ⟨q0, q1, hp0, hp1, hl0, hl1⟩ := by_q hBY
     have haa : -9223372036854775808 ≤ aa ∧ aa ≤ 9223372036854775807 := (hg0 _ (List.mem_of_getElem? hy)).2.1
     have hkp : ∀ z ∈ kp, 0 ≤ z ∧ z < 256 := (hg0 _ (List.mem_of_getElem? hy)).2.2.2.2.1
     have hxl : xs.length ≤ 400 := (gr_small hgr).2 i _ hy
     have htk : (xs.take 186).length ≤ xs.length := by rw [List.length_take]; omega
     have hl3c : xs.length ≤ c3 := hl3
     obtain ⟨g_, hgg⟩ := gen_of (g := gg) (hg0 _ (List.mem_of_getElem? hy)).2.2.1
     subst hgg
     refine wp_skip ?_
     refine hK75 _ _ ?_
     refine wp_seq_k (fun K77 hK78 => ?_)
     refine wp_block ?_
     refine wp_seq_k (fun K79 hK80 => ?_)
     refine c_region (fun ops82 hops81 => ?_)
     clear hops81
     refine p_run _ (x_index (A := ad) (j := i * 5) (sz := 5) rfl rfl rfl Try.underlying43 (by kernel_rfl) (by omega) rfl) rfl ?_
     refine p_run _ (x_loads [.int .i64 kd, .int .i64 aa, .int .u64 (uv g_), .slice A3 xs.length c3, .slice A4 kp.length c4] 5 rfl rfl hcell (by rfl) (by kernel_rfl) rfl) rfl ?_
     refine St.wAlloc HS (cs := [.int .i64 0, .int .i64 0, .int .u64 0, .slice none 0 0, .slice none 0 0]) (.agg [.int .i64 0, .int .i64 0, .int .u64 0, .slice none 0 0, .slice none 0 0].toArray) (by kernel_rfl) rfl ?_
     clear HS
     intro g83 w84 hg85 HS
     refine St.stores (cs' := [.int .i64 kd, .int .i64 aa, .int .u64 (uv g_), .slice A3 xs.length c3, .slice A4 kp.length c4]) HS [.int .i64 kd, .int .i64 aa, .int .u64 (uv g_), .slice A3 xs.length c3, .slice A4 kp.length c4] 5 rfl rfl (by rfl) (by kernel_rfl) rfl (by simp) rfl ?_
     clear HS
     intro w86 HS
     refine wpList_nil ?_
     refine hK80 _ _ ?_
     refine wp_seq_k (fun K87 hK88 => ?_)
     refine c_region (fun ops90 hops89 => ?_)
     clear hops89
     refine p_run _ (x_assign (.int .u64 0) rfl rfl) rfl ?_
     refine p_run _ (x_assign (.int .u64 0) rfl rfl) rfl ?_
     refine wpList_nil ?_
     refine fr_at (l' := (.int .i64 pages :: .slice (some ad) l0.length c0 :: undef :: undef :: q46.a :: .pointer (some ⟨D23, 0, none⟩) :: .pointer (some ⟨g35, 0, none⟩) :: undef :: .pointer (some ⟨g83, 0, none⟩) :: .int .u64 0 :: .int .u64 0 :: q46.e :: q46.f :: q46.g :: q46.h :: V8.l q47 (q48.a :: q48.b :: undef :: undef :: undef :: .bool true :: .bool false :: .int .i64 pages :: .bool false :: V8.l qz39 (.slice (some ad) l0.length c0 :: .int .i64 (l0.length : Int) :: .int .i64 (i : Int) :: .bool (decide ((i : Int) < (l0.length : Int))) :: .pointer (some ((ad).add (i * 5))) :: .agg ([.int .i64 kd, .int .i64 aa, .int .u64 (uv g_), .slice A3 xs.length c3, .slice A4 kp.length c4] : List Value).toArray :: q48.f :: q48.g :: q48.h :: V8.l q49 (V8.l q50 (V8.l q51 (V8.l q52 (V8.l q53 (V8.l q54 (V8.l q55 (V8.l q56 (V8.l q57 (V8.l q58 (V8.l q59 (V8.l q60 (V8.l q61 (V8.l q62 (V8.l q63 (V8.l q64 (V8.l q65 (q66.a :: q66.b :: q66.c :: q66.d :: q66.e :: q66.f :: U16l5r (U4l5r ([]))))))))))))))))))))))) rfl ?_
     refine hK88 _ _ ?_
     refine wp_seq_k (fun K91 hK92 => ?_)
     refine c_region (fun ops94 hops93 => ?_)
     clear hops93
     refine p_run _ (x_assign (.int .i64 0) rfl rfl) rfl ?_
     refine p_run _ (x_assign (.int .i64 0) rfl rfl) rfl ?_
     refine wpList_nil ?_
     refine hK92 _ _ ?_
     refine wp_seq_k (fun K95 hK96 => ?_)
     have hT97 : ∀ (S' : Dk) (R' : Rk) (v' : Value) (vs' : Value) (vb' : Value) (vp' : Value) (n_ : Int) (e_ : Int) (q98 : V8) (q99 : V8) (q100 : V8) (q101 : V8) (q102 : V8) (q103 : V8) (q104 : V8) (q105 : V8) (q106 : V8) (q107 : V8) (q108 : V8) (q109 : V8) (w110 : World), St w (fun _ => False) w110 ([blk D23 (dskC gs24 gm25 v' S') 72, blk gs24 (pgs S'.stable) 38, mapR gm25 S'.cnt S'.bad, row kWr rfl 78 v' S'.pending, row kPg rfl 38 vs' R'.stable, row Kd.bool rfl 4 vb' R'.bad, row kWr rfl 87 vp' R'.pending, blk g35 [vs', vb', vp', .bool R'.counted, .int .i64 R'.left, .bool R'.down] 53, blk g83 [.int .i64 kd, .int .i64 aa, .int .u64 (uv g_), .slice A3 xs.length c3, .slice A4 kp.length c4] 46]) → (RD S' R' ∧ S'.good (i + 1) ∧ BY S') → K95 (fr (.int .i64 pages :: .slice (some ad) l0.length c0 :: undef :: undef :: q46.a :: .pointer (some ⟨D23, 0, none⟩) :: .pointer (some ⟨g35, 0, none⟩) :: undef :: .pointer (some ⟨g83, 0, none⟩) :: .int .u64 n_ :: .int .u64 n_ :: .int .i64 e_ :: .int .i64 e_ :: q98.a :: q98.b :: V8.l q47 (q48.a :: q48.b :: undef :: undef :: undef :: .bool true :: .bool false :: .int .i64 pages :: .bool false :: V8.l qz39 (.slice (some ad) l0.length c0 :: .int .i64 (l0.length : Int) :: .int .i64 (i : Int) :: .bool (decide ((i : Int) < (l0.length : Int))) :: .pointer (some ((ad).add (i * 5))) :: .agg ([.int .i64 kd, .int .i64 aa, .int .u64 (uv g_), .slice A3 xs.length c3, .slice A4 kp.length c4] : List Value).toArray :: q98.c :: q98.d :: q98.e :: q98.f :: q98.g :: q98.h :: V8.l q99 (V8.l q100 (V8.l q101 (V8.l q102 (V8.l q103 (V8.l q104 (V8.l q105 (V8.l q106 (V8.l q107 (V8.l q108 (q109.a :: q59.e :: q59.f :: q59.g :: q59.h :: V8.l q60 (V8.l q61 (V8.l q62 (V8.l q63 (V8.l q64 (V8.l q65 (q66.a :: q66.b :: q66.c :: q66.d :: q66.e :: q66.f :: U16l5r (U4l5r ([])))))))))))))))))))))) w110 := by
      clear HS
      intro S' R' v' vs' vb' vp' n_ e_ q98 q99 q100 q101 q102 q103 q104 q105 q106 q107 q108 q109 w110 HS hJ
      refine hK96 _ _ ?_
      obtain ⟨hRD2, hG2, hBY2⟩ := hJ
      have hRO2 := rd_ok hRD2 hG2
      obtain ⟨q0', q1', hp0', hp1', hl0', hl1'⟩ := by_q hBY2
      refine wp_seq_k (fun K111 hK112 => ?_)
      refine c_region (fun ops114 hops113 => ?_)
      clear hops113
      refine p_run _ (x_move (.pointer (some ⟨D23, 0, none⟩)) rfl rfl) rfl ?_
      refine w_call [.pointer (some ⟨D23, 0, none⟩)] Try.func9 (by kernel_rfl) (by rfl) rfl ?_
      replace HS := ((((HS.front 3 rfl).front 3 rfl).front 3 rfl).front 3 rfl)
      refine (read_root HS hG2 (by omega) hp0' hp1' hl0' hl1').mono ?_
      clear HS
      rintro e w117 ⟨oa115, nc116, rfl, HS⟩
      refine ⟨_, rfl, ?_⟩
      refine p_run _ (x_move (.tuple [.slice oa115 ((rB S' q0' q1').length) nc116, .int .u64 (uv (rG S' q0' q1')), .int .i64 (reE S' q0' q1')].toArray) rfl rfl) rfl ?_
      refine p_run _ (x_extract (vs := [.slice oa115 ((rB S' q0' q1').length) nc116, .int .u64 (uv (rG S' q0' q1')), .int .i64 (reE S' q0' q1')]) 0 (.slice oa115 ((rB S' q0' q1').length) nc116) rfl rfl rfl) rfl ?_
      refine p_run _ (x_extract (vs := [.slice oa115 ((rB S' q0' q1').length) nc116, .int .u64 (uv (rG S' q0' q1')), .int .i64 (reE S' q0' q1')]) 1 (.int .u64 (uv (rG S' q0' q1'))) rfl rfl rfl) rfl ?_
      refine p_run (l' := (.int .i64 pages :: .slice (some ad) l0.length c0 :: undef :: undef :: q46.a :: .pointer (some ⟨D23, 0, none⟩) :: .pointer (some ⟨g35, 0, none⟩) :: undef :: .pointer (some ⟨g83, 0, none⟩) :: .int .u64 n_ :: .int .u64 n_ :: .int .i64 e_ :: .int .i64 e_ :: q98.a :: q98.b :: V8.l q47 (q48.a :: q48.b :: undef :: undef :: undef :: .bool true :: .bool false :: .int .i64 pages :: .bool false :: V8.l qz39 (.slice (some ad) l0.length c0 :: .int .i64 (l0.length : Int) :: .int .i64 (i : Int) :: .bool (decide ((i : Int) < (l0.length : Int))) :: .pointer (some ((ad).add (i * 5))) :: .agg ([.int .i64 kd, .int .i64 aa, .int .u64 (uv g_), .slice A3 xs.length c3, .slice A4 kp.length c4] : List Value).toArray :: q98.c :: q98.d :: q98.e :: q98.f :: q98.g :: q98.h :: V8.l q99 (V8.l q100 (V8.l q101 (V8.l q102 (V8.l q103 (V8.l q104 (V8.l q105 (V8.l q106 (V8.l q107 (V8.l q108 (q109.a :: .tuple [.slice oa115 ((rB S' q0' q1').length) nc116, .int .u64 (uv (rG S' q0' q1')), .int .i64 (reE S' q0' q1')].toArray :: .pointer (some ⟨D23, 0, none⟩) :: .tuple [.slice oa115 ((rB S' q0' q1').length) nc116, .int .u64 (uv (rG S' q0' q1')), .int .i64 (reE S' q0' q1')].toArray :: .slice oa115 ((rB S' q0' q1').length) nc116 :: .int .u64 (uv (rG S' q0' q1')) :: .int .i64 (reE S' q0' q1') :: q60.c :: q60.d :: q60.e :: q60.f :: q60.g :: q60.h :: V8.l q61 (V8.l q62 (V8.l q63 (V8.l q64 (V8.l q65 (q66.a :: q66.b :: q66.c :: q66.d :: q66.e :: q66.f :: U16l5r (U4l5r ([]))))))))))))))))))))) _ (x_extract (vs := [.slice oa115 ((rB S' q0' q1').length) nc116, .int .u64 (uv (rG S' q0' q1')), .int .i64 (reE S' q0' q1')]) 2 (.int .i64 (reE S' q0' q1')) rfl rfl rfl) rfl ?_
      refine p_run _ (x_assign (.slice oa115 ((rB S' q0' q1').length) nc116) rfl rfl) rfl ?_
      refine p_run _ (x_assign (.int .u64 (uv (rG S' q0' q1'))) rfl rfl) rfl ?_
      refine p_run _ (x_assign (.int .i64 (reE S' q0' q1')) rfl rfl) rfl ?_
      refine wpList_nil ?_
      refine hK112 _ _ ?_
      refine wp_seq_k (fun K118 hK119 => ?_)
      refine c_region (fun ops121 hops120 => ?_)
      clear hops120
      refine p_run _ (x_loads [vs', vb', vp', .bool R'.counted, .int .i64 R'.left, .bool R'.down] 6 rfl rfl (bkCells (HS.get (.tail _ (.tail _ (.tail _ (.tail _ (.tail _ (.tail _ (.tail _ (.tail _ (.head _)))))))))) 0 _ rfl) (by rfl) (by kernel_rfl) rfl) rfl ?_
      refine w_call [rkV vs' vb' vp' R'] Try.func26 (by kernel_rfl) (by rfl) rfl ?_
      replace HS := (((HS.front 7 rfl).front 7 rfl).front 7 rfl)
      refine (rfread_any HS hRD2 hRO2 (by omega) hp0' hp1' hl0' hl1').mono ?_
      clear HS
      rintro e w123 ⟨v122, rfl, HS⟩
      refine ⟨_, rfl, ?_⟩
      refine p_run _ (x_move (.tuple [v122, .int .u64 (uv (rG S' q0' q1')), .int .i64 (reE S' q0' q1')].toArray) rfl rfl) rfl ?_
      refine p_run _ (x_extract (vs := [v122, .int .u64 (uv (rG S' q0' q1')), .int .i64 (reE S' q0' q1')]) 0 (v122) rfl rfl rfl) rfl ?_
      refine p_run (l' := (.int .i64 pages :: .slice (some ad) l0.length c0 :: undef :: undef :: q46.a :: .pointer (some ⟨D23, 0, none⟩) :: .pointer (some ⟨g35, 0, none⟩) :: undef :: .pointer (some ⟨g83, 0, none⟩) :: .int .u64 n_ :: .int .u64 n_ :: .int .i64 e_ :: .int .i64 e_ :: q98.a :: q98.b :: .slice oa115 ((rB S' q0' q1').length) nc116 :: .int .u64 (uv (rG S' q0' q1')) :: .int .i64 (reE S' q0' q1') :: q47.d :: q47.e :: q47.f :: q47.g :: q47.h :: q48.a :: q48.b :: undef :: undef :: undef :: .bool true :: .bool false :: .int .i64 pages :: .bool false :: V8.l qz39 (.slice (some ad) l0.length c0 :: .int .i64 (l0.length : Int) :: .int .i64 (i : Int) :: .bool (decide ((i : Int) < (l0.length : Int))) :: .pointer (some ((ad).add (i * 5))) :: .agg ([.int .i64 kd, .int .i64 aa, .int .u64 (uv g_), .slice A3 xs.length c3, .slice A4 kp.length c4] : List Value).toArray :: q98.c :: q98.d :: q98.e :: q98.f :: q98.g :: q98.h :: V8.l q99 (V8.l q100 (V8.l q101 (V8.l q102 (V8.l q103 (V8.l q104 (V8.l q105 (V8.l q106 (V8.l q107 (V8.l q108 (q109.a :: .tuple [.slice oa115 ((rB S' q0' q1').length) nc116, .int .u64 (uv (rG S' q0' q1')), .int .i64 (reE S' q0' q1')].toArray :: .pointer (some ⟨D23, 0, none⟩) :: .tuple [.slice oa115 ((rB S' q0' q1').length) nc116, .int .u64 (uv (rG S' q0' q1')), .int .i64 (reE S' q0' q1')].toArray :: .slice oa115 ((rB S' q0' q1').length) nc116 :: .int .u64 (uv (rG S' q0' q1')) :: .int .i64 (reE S' q0' q1') :: .tuple [v122, .int .u64 (uv (rG S' q0' q1')), .int .i64 (reE S' q0' q1')].toArray :: rkV vs' vb' vp' R' :: .tuple [v122, .int .u64 (uv (rG S' q0' q1')), .int .i64 (reE S' q0' q1')].toArray :: v122 :: .int .u64 (uv (rG S' q0' q1')) :: q60.h :: V8.l q61 (V8.l q62 (V8.l q63 (V8.l q64 (V8.l q65 (q66.a :: q66.b :: q66.c :: q66.d :: q66.e :: q66.f :: U16l5r (U4l5r ([])))))))))))))))))))) _ (x_extract (vs := [v122, .int .u64 (uv (rG S' q0' q1')), .int .i64 (reE S' q0' q1')]) 1 (.int .u64 (uv (rG S' q0' q1'))) rfl rfl rfl) rfl ?_
      refine p_run _ (x_extract (vs := [v122, .int .u64 (uv (rG S' q0' q1')), .int .i64 (reE S' q0' q1')]) 2 (.int .i64 (reE S' q0' q1')) rfl rfl rfl) rfl ?_
      refine p_run _ (x_assign (v122) rfl rfl) rfl ?_
      refine p_run _ (x_assign (.int .u64 (uv (rG S' q0' q1'))) rfl rfl) rfl ?_
      refine p_run _ (x_assign (.int .i64 (reE S' q0' q1')) rfl rfl) rfl ?_
      refine wpList_nil ?_
      refine hK119 _ _ ?_
      refine wp_seq_k (fun K124 hK125 => ?_)
      refine c_region (fun ops127 hops126 => ?_)
      clear hops126
      refine p_run _ (x_move (.pointer (some ⟨D23, 0, none⟩)) rfl rfl) rfl ?_
      refine w_call [.pointer (some ⟨D23, 0, none⟩)] Try.func11 (by kernel_rfl) (by rfl) rfl ?_
      replace HS := ((((HS.front 8 rfl).front 8 rfl).front 8 rfl).front 8 rfl)
      refine (next_root HS hG2 (by omega) hp0' hp1' hl0' hl1').mono ?_
      clear HS
      rintro e w128 ⟨rfl, HS⟩
      refine ⟨_, rfl, ?_⟩
      refine p_run _ (x_move (.tuple [.int .u64 (uv (nG S' q0' q1')), .int .i64 (nE S' q0' q1')].toArray) rfl rfl) rfl ?_
      refine p_run (l' := (.int .i64 pages :: .slice (some ad) l0.length c0 :: undef :: undef :: q46.a :: .pointer (some ⟨D23, 0, none⟩) :: .pointer (some ⟨g35, 0, none⟩) :: undef :: .pointer (some ⟨g83, 0, none⟩) :: .int .u64 n_ :: .int .u64 n_ :: .int .i64 e_ :: .int .i64 e_ :: q98.a :: q98.b :: .slice oa115 ((rB S' q0' q1').length) nc116 :: .int .u64 (uv (rG S' q0' q1')) :: .int .i64 (reE S' q0' q1') :: v122 :: .int .u64 (uv (rG S' q0' q1')) :: .int .i64 (reE S' q0' q1') :: q47.g :: q47.h :: q48.a :: q48.b :: undef :: undef :: undef :: .bool true :: .bool false :: .int .i64 pages :: .bool false :: V8.l qz39 (.slice (some ad) l0.length c0 :: .int .i64 (l0.length : Int) :: .int .i64 (i : Int) :: .bool (decide ((i : Int) < (l0.length : Int))) :: .pointer (some ((ad).add (i * 5))) :: .agg ([.int .i64 kd, .int .i64 aa, .int .u64 (uv g_), .slice A3 xs.length c3, .slice A4 kp.length c4] : List Value).toArray :: q98.c :: q98.d :: q98.e :: q98.f :: q98.g :: q98.h :: V8.l q99 (V8.l q100 (V8.l q101 (V8.l q102 (V8.l q103 (V8.l q104 (V8.l q105 (V8.l q106 (V8.l q107 (V8.l q108 (q109.a :: .tuple [.slice oa115 ((rB S' q0' q1').length) nc116, .int .u64 (uv (rG S' q0' q1')), .int .i64 (reE S' q0' q1')].toArray :: .pointer (some ⟨D23, 0, none⟩) :: .tuple [.slice oa115 ((rB S' q0' q1').length) nc116, .int .u64 (uv (rG S' q0' q1')), .int .i64 (reE S' q0' q1')].toArray :: .slice oa115 ((rB S' q0' q1').length) nc116 :: .int .u64 (uv (rG S' q0' q1')) :: .int .i64 (reE S' q0' q1') :: .tuple [v122, .int .u64 (uv (rG S' q0' q1')), .int .i64 (reE S' q0' q1')].toArray :: rkV vs' vb' vp' R' :: .tuple [v122, .int .u64 (uv (rG S' q0' q1')), .int .i64 (reE S' q0' q1')].toArray :: v122 :: .int .u64 (uv (rG S' q0' q1')) :: .int .i64 (reE S' q0' q1') :: .tuple [.int .u64 (uv (nG S' q0' q1')), .int .i64 (nE S' q0' q1')].toArray :: .pointer (some ⟨D23, 0, none⟩) :: .tuple [.int .u64 (uv (nG S' q0' q1')), .int .i64 (nE S' q0' q1')].toArray :: .int .u64 (uv (nG S' q0' q1')) :: q61.e :: q61.f :: q61.g :: q61.h :: V8.l q62 (V8.l q63 (V8.l q64 (V8.l q65 (q66.a :: q66.b :: q66.c :: q66.d :: q66.e :: q66.f :: U16l5r (U4l5r ([]))))))))))))))))))) _ (x_extract (vs := [.int .u64 (uv (nG S' q0' q1')), .int .i64 (nE S' q0' q1')]) 0 (.int .u64 (uv (nG S' q0' q1'))) rfl rfl rfl) rfl ?_
      refine p_run _ (x_extract (vs := [.int .u64 (uv (nG S' q0' q1')), .int .i64 (nE S' q0' q1')]) 1 (.int .i64 (nE S' q0' q1')) rfl rfl rfl) rfl ?_
      refine p_run _ (x_assign (.int .u64 (uv (nG S' q0' q1'))) rfl rfl) rfl ?_
      refine p_run _ (x_assign (.int .i64 (nE S' q0' q1')) rfl rfl) rfl ?_
      refine wpList_nil ?_
      refine hK125 _ _ ?_
      refine wp_seq_k (fun K129 hK130 => ?_)
      refine c_region (fun ops132 hops131 => ?_)
      clear hops131
      refine p_run _ (x_loads [vs', vb', vp', .bool R'.counted, .int .i64 R'.left, .bool R'.down] 6 rfl rfl (bkCells (HS.get (.tail _ (.tail _ (.tail _ (.tail _ (.tail _ (.tail _ (.tail _ (.tail _ (.tail _ (.head _))))))))))) 0 _ rfl) (by rfl) (by kernel_rfl) rfl) rfl ?_
      refine w_call [rkV vs' vb' vp' R'] Try.func27 (by kernel_rfl) (by rfl) rfl ?_
      replace HS := (((HS.front 7 rfl).front 7 rfl).front 7 rfl)
      refine (rfnext_any HS hRD2 hRO2 (by omega) hp0' hp1' hl0' hl1').mono ?_
      clear HS
      rintro e w133 ⟨rfl, HS⟩
      refine ⟨_, rfl, ?_⟩
      refine p_run _ (x_move (.tuple [.int .u64 (uv (nG S' q0' q1')), .int .i64 (nE S' q0' q1')].toArray) rfl rfl) rfl ?_
      refine p_run _ (x_extract (vs := [.int .u64 (uv (nG S' q0' q1')), .int .i64 (nE S' q0' q1')]) 0 (.int .u64 (uv (nG S' q0' q1'))) rfl rfl rfl) rfl ?_
      refine p_run (l' := (.int .i64 pages :: .slice (some ad) l0.length c0 :: undef :: undef :: q46.a :: .pointer (some ⟨D23, 0, none⟩) :: .pointer (some ⟨g35, 0, none⟩) :: undef :: .pointer (some ⟨g83, 0, none⟩) :: .int .u64 n_ :: .int .u64 n_ :: .int .i64 e_ :: .int .i64 e_ :: q98.a :: q98.b :: .slice oa115 ((rB S' q0' q1').length) nc116 :: .int .u64 (uv (rG S' q0' q1')) :: .int .i64 (reE S' q0' q1') :: v122 :: .int .u64 (uv (rG S' q0' q1')) :: .int .i64 (reE S' q0' q1') :: .int .u64 (uv (nG S' q0' q1')) :: .int .i64 (nE S' q0' q1') :: q48.a :: q48.b :: undef :: undef :: undef :: .bool true :: .bool false :: .int .i64 pages :: .bool false :: V8.l qz39 (.slice (some ad) l0.length c0 :: .int .i64 (l0.length : Int) :: .int .i64 (i : Int) :: .bool (decide ((i : Int) < (l0.length : Int))) :: .pointer (some ((ad).add (i * 5))) :: .agg ([.int .i64 kd, .int .i64 aa, .int .u64 (uv g_), .slice A3 xs.length c3, .slice A4 kp.length c4] : List Value).toArray :: q98.c :: q98.d :: q98.e :: q98.f :: q98.g :: q98.h :: V8.l q99 (V8.l q100 (V8.l q101 (V8.l q102 (V8.l q103 (V8.l q104 (V8.l q105 (V8.l q106 (V8.l q107 (V8.l q108 (q109.a :: .tuple [.slice oa115 ((rB S' q0' q1').length) nc116, .int .u64 (uv (rG S' q0' q1')), .int .i64 (reE S' q0' q1')].toArray :: .pointer (some ⟨D23, 0, none⟩) :: .tuple [.slice oa115 ((rB S' q0' q1').length) nc116, .int .u64 (uv (rG S' q0' q1')), .int .i64 (reE S' q0' q1')].toArray :: .slice oa115 ((rB S' q0' q1').length) nc116 :: .int .u64 (uv (rG S' q0' q1')) :: .int .i64 (reE S' q0' q1') :: .tuple [v122, .int .u64 (uv (rG S' q0' q1')), .int .i64 (reE S' q0' q1')].toArray :: rkV vs' vb' vp' R' :: .tuple [v122, .int .u64 (uv (rG S' q0' q1')), .int .i64 (reE S' q0' q1')].toArray :: v122 :: .int .u64 (uv (rG S' q0' q1')) :: .int .i64 (reE S' q0' q1') :: .tuple [.int .u64 (uv (nG S' q0' q1')), .int .i64 (nE S' q0' q1')].toArray :: .pointer (some ⟨D23, 0, none⟩) :: .tuple [.int .u64 (uv (nG S' q0' q1')), .int .i64 (nE S' q0' q1')].toArray :: .int .u64 (uv (nG S' q0' q1')) :: .int .i64 (nE S' q0' q1') :: .tuple [.int .u64 (uv (nG S' q0' q1')), .int .i64 (nE S' q0' q1')].toArray :: rkV vs' vb' vp' R' :: .tuple [.int .u64 (uv (nG S' q0' q1')), .int .i64 (nE S' q0' q1')].toArray :: .int .u64 (uv (nG S' q0' q1')) :: .int .i64 (nE S' q0' q1') :: q62.c :: q62.d :: q62.e :: q62.f :: q62.g :: q62.h :: V8.l q63 (V8.l q64 (V8.l q65 (q66.a :: q66.b :: q66.c :: q66.d :: q66.e :: q66.f :: U16l5r (U4l5r ([])))))))))))))))))) _ (x_extract (vs := [.int .u64 (uv (nG S' q0' q1')), .int .i64 (nE S' q0' q1')]) 1 (.int .i64 (nE S' q0' q1')) rfl rfl rfl) rfl ?_
      refine p_run _ (x_assign (.int .u64 (uv (nG S' q0' q1'))) rfl rfl) rfl ?_
      refine p_run _ (x_assign (.int .i64 (nE S' q0' q1')) rfl rfl) rfl ?_
      refine wpList_nil ?_
      refine hK130 _ _ ?_
      refine wp_seq_k (fun K134 hK135 => ?_)
      skip
      ·obtain ⟨A136, c137, hv138, hcp139, -⟩ := row_reads (HS.get (.tail _ (.tail _ (.tail _ (.tail _ (.tail _ (.tail _ (.tail _ (.head _)))))))))
       subst hv138
       refine c_region (fun ops141 hops140 => ?_)
       refine p_run _ (x_move (.int .u64 n_) rfl rfl) rfl ?_
       refine p_run _ (x_move (.int .u64 n_) rfl rfl) rfl ?_
       refine p_run _ (x_cmp (k := .u64) (m := n_) (n := n_) .neq false rfl rfl rfl (by unfold cmpB; simp) rfl) rfl ?_
       refine p_run _ (x_move (.bool false) rfl rfl) rfl ?_
       refine p_on rfl (by rw [hops140]; rfl) ?_
       refine p_run _ (x_move (.int .i64 e_) rfl rfl) rfl ?_
       refine p_on rfl (by rw [hops140]; rfl) ?_
       refine p_run (l' := (.int .i64 pages :: .slice (some ad) l0.length c0 :: undef :: undef :: q46.a :: .pointer (some ⟨D23, 0, none⟩) :: .pointer (some ⟨g35, 0, none⟩) :: undef :: .pointer (some ⟨g83, 0, none⟩) :: .int .u64 n_ :: .int .u64 n_ :: .int .i64 e_ :: .int .i64 e_ :: q98.a :: q98.b :: .slice oa115 ((rB S' q0' q1').length) nc116 :: .int .u64 (uv (rG S' q0' q1')) :: .int .i64 (reE S' q0' q1') :: .slice A136 ((rB S' q0' q1').length) c137 :: .int .u64 (uv (rG S' q0' q1')) :: .int .i64 (reE S' q0' q1') :: .int .u64 (uv (nG S' q0' q1')) :: .int .i64 (nE S' q0' q1') :: .int .u64 (uv (nG S' q0' q1')) :: .int .i64 (nE S' q0' q1') :: undef :: undef :: undef :: .bool true :: .bool false :: .int .i64 pages :: .bool false :: V8.l qz39 (.slice (some ad) l0.length c0 :: .int .i64 (l0.length : Int) :: .int .i64 (i : Int) :: .bool (decide ((i : Int) < (l0.length : Int))) :: .pointer (some ((ad).add (i * 5))) :: .agg ([.int .i64 kd, .int .i64 aa, .int .u64 (uv g_), .slice A3 xs.length c3, .slice A4 kp.length c4] : List Value).toArray :: q98.c :: q98.d :: q98.e :: q98.f :: q98.g :: q98.h :: V8.l q99 (V8.l q100 (V8.l q101 (V8.l q102 (V8.l q103 (V8.l q104 (V8.l q105 (V8.l q106 (V8.l q107 (V8.l q108 (q109.a :: .tuple [.slice oa115 ((rB S' q0' q1').length) nc116, .int .u64 (uv (rG S' q0' q1')), .int .i64 (reE S' q0' q1')].toArray :: .pointer (some ⟨D23, 0, none⟩) :: .tuple [.slice oa115 ((rB S' q0' q1').length) nc116, .int .u64 (uv (rG S' q0' q1')), .int .i64 (reE S' q0' q1')].toArray :: .slice oa115 ((rB S' q0' q1').length) nc116 :: .int .u64 (uv (rG S' q0' q1')) :: .int .i64 (reE S' q0' q1') :: .tuple [.slice A136 ((rB S' q0' q1').length) c137, .int .u64 (uv (rG S' q0' q1')), .int .i64 (reE S' q0' q1')].toArray :: rkV vs' vb' vp' R' :: .tuple [.slice A136 ((rB S' q0' q1').length) c137, .int .u64 (uv (rG S' q0' q1')), .int .i64 (reE S' q0' q1')].toArray :: .slice A136 ((rB S' q0' q1').length) c137 :: .int .u64 (uv (rG S' q0' q1')) :: .int .i64 (reE S' q0' q1') :: .tuple [.int .u64 (uv (nG S' q0' q1')), .int .i64 (nE S' q0' q1')].toArray :: .pointer (some ⟨D23, 0, none⟩) :: .tuple [.int .u64 (uv (nG S' q0' q1')), .int .i64 (nE S' q0' q1')].toArray :: .int .u64 (uv (nG S' q0' q1')) :: .int .i64 (nE S' q0' q1') :: .tuple [.int .u64 (uv (nG S' q0' q1')), .int .i64 (nE S' q0' q1')].toArray :: rkV vs' vb' vp' R' :: .tuple [.int .u64 (uv (nG S' q0' q1')), .int .i64 (nE S' q0' q1')].toArray :: .int .u64 (uv (nG S' q0' q1')) :: .int .i64 (nE S' q0' q1') :: .int .u64 n_ :: .int .u64 n_ :: .bool false :: .bool false :: .int .i64 e_ :: .int .i64 e_ :: V8.l q63 (V8.l q64 (V8.l q65 (q66.a :: q66.b :: q66.c :: q66.d :: q66.e :: q66.f :: U16l5r (U4l5r ([])))))))))))))))))) _ (x_move (.int .i64 e_) rfl rfl) rfl ?_
       refine p_on rfl (by rw [hops140]; rfl) ?_
       refine p_run _ (x_cmp (k := .i64) (m := e_) (n := e_) .neq false rfl rfl rfl (by unfold cmpB; simp) rfl) rfl ?_
       refine p_run _ (x_pick false (.bool true) (.bool false) (.bool false) rfl rfl rfl rfl rfl) rfl ?_
       refine p_run _ (x_move (.bool false) rfl rfl) rfl ?_
       refine p_on rfl (by rw [hops140]; rfl) ?_
       refine p_run _ (x_move (.slice oa115 ((rB S' q0' q1').length) nc116) rfl rfl) rfl ?_
       refine p_on rfl (by rw [hops140]; rfl) ?_
       refine p_run _ (x_str (xs := (rB S' q0' q1')) (Sl.rd (HS.get (.tail _ (.tail _ (.tail _ (.tail _ (.tail _ (.tail _ (.tail _ (.tail _ (.head _))))))))))) (by first | rfl | simp) rfl rfl) rfl ?_
       refine p_on rfl (by rw [hops140]; rfl) ?_
       refine p_run _ (x_move (.slice A136 ((rB S' q0' q1').length) c137) rfl rfl) rfl ?_
       refine p_on rfl (by rw [hops140]; rfl) ?_
       refine p_run _ (x_str (xs := (rB S' q0' q1')) (row_rd (HS.get (.tail _ (.tail _ (.tail _ (.tail _ (.tail _ (.tail _ (.tail _ (.head _)))))))))).2.2 (by first | rfl | simp) rfl rfl) rfl ?_
       refine p_on rfl (by rw [hops140]; rfl) ?_
       refine p_run (l' := (.int .i64 pages :: .slice (some ad) l0.length c0 :: undef :: undef :: q46.a :: .pointer (some ⟨D23, 0, none⟩) :: .pointer (some ⟨g35, 0, none⟩) :: undef :: .pointer (some ⟨g83, 0, none⟩) :: .int .u64 n_ :: .int .u64 n_ :: .int .i64 e_ :: .int .i64 e_ :: q98.a :: q98.b :: .slice oa115 ((rB S' q0' q1').length) nc116 :: .int .u64 (uv (rG S' q0' q1')) :: .int .i64 (reE S' q0' q1') :: .slice A136 ((rB S' q0' q1').length) c137 :: .int .u64 (uv (rG S' q0' q1')) :: .int .i64 (reE S' q0' q1') :: .int .u64 (uv (nG S' q0' q1')) :: .int .i64 (nE S' q0' q1') :: .int .u64 (uv (nG S' q0' q1')) :: .int .i64 (nE S' q0' q1') :: undef :: undef :: undef :: .bool true :: .bool false :: .int .i64 pages :: .bool false :: V8.l qz39 (.slice (some ad) l0.length c0 :: .int .i64 (l0.length : Int) :: .int .i64 (i : Int) :: .bool (decide ((i : Int) < (l0.length : Int))) :: .pointer (some ((ad).add (i * 5))) :: .agg ([.int .i64 kd, .int .i64 aa, .int .u64 (uv g_), .slice A3 xs.length c3, .slice A4 kp.length c4] : List Value).toArray :: q98.c :: q98.d :: q98.e :: q98.f :: q98.g :: q98.h :: V8.l q99 (V8.l q100 (V8.l q101 (V8.l q102 (V8.l q103 (V8.l q104 (V8.l q105 (V8.l q106 (V8.l q107 (V8.l q108 (q109.a :: .tuple [.slice oa115 ((rB S' q0' q1').length) nc116, .int .u64 (uv (rG S' q0' q1')), .int .i64 (reE S' q0' q1')].toArray :: .pointer (some ⟨D23, 0, none⟩) :: .tuple [.slice oa115 ((rB S' q0' q1').length) nc116, .int .u64 (uv (rG S' q0' q1')), .int .i64 (reE S' q0' q1')].toArray :: .slice oa115 ((rB S' q0' q1').length) nc116 :: .int .u64 (uv (rG S' q0' q1')) :: .int .i64 (reE S' q0' q1') :: .tuple [.slice A136 ((rB S' q0' q1').length) c137, .int .u64 (uv (rG S' q0' q1')), .int .i64 (reE S' q0' q1')].toArray :: rkV vs' vb' vp' R' :: .tuple [.slice A136 ((rB S' q0' q1').length) c137, .int .u64 (uv (rG S' q0' q1')), .int .i64 (reE S' q0' q1')].toArray :: .slice A136 ((rB S' q0' q1').length) c137 :: .int .u64 (uv (rG S' q0' q1')) :: .int .i64 (reE S' q0' q1') :: .tuple [.int .u64 (uv (nG S' q0' q1')), .int .i64 (nE S' q0' q1')].toArray :: .pointer (some ⟨D23, 0, none⟩) :: .tuple [.int .u64 (uv (nG S' q0' q1')), .int .i64 (nE S' q0' q1')].toArray :: .int .u64 (uv (nG S' q0' q1')) :: .int .i64 (nE S' q0' q1') :: .tuple [.int .u64 (uv (nG S' q0' q1')), .int .i64 (nE S' q0' q1')].toArray :: rkV vs' vb' vp' R' :: .tuple [.int .u64 (uv (nG S' q0' q1')), .int .i64 (nE S' q0' q1')].toArray :: .int .u64 (uv (nG S' q0' q1')) :: .int .i64 (nE S' q0' q1') :: .int .u64 n_ :: .int .u64 n_ :: .bool false :: .bool false :: .int .i64 e_ :: .int .i64 e_ :: .bool false :: .bool false :: .bool false :: .slice oa115 ((rB S' q0' q1').length) nc116 :: .string (strB (rB S' q0' q1')) :: .slice A136 ((rB S' q0' q1').length) c137 :: .string (strB (rB S' q0' q1')) :: .bool false :: V8.l q64 (V8.l q65 (q66.a :: q66.b :: q66.c :: q66.d :: q66.e :: q66.f :: U16l5r (U4l5r ([]))))))))))))))))) _ (x_streq .neq (strB (rB S' q0' q1')) (strB (rB S' q0' q1')) false rfl rfl rfl (str_no rfl) rfl) rfl ?_
       refine p_run _ (x_pick false (.bool true) (.bool false) (.bool false) rfl rfl rfl rfl rfl) rfl ?_
       refine p_run _ (x_move (.bool false) rfl rfl) rfl ?_
       refine p_on rfl (by rw [hops140]; rfl) ?_
       refine p_run _ (x_move (.int .u64 (uv (rG S' q0' q1'))) rfl rfl) rfl ?_
       refine p_on rfl (by rw [hops140]; rfl) ?_
       refine p_run _ (x_move (.int .u64 (uv (rG S' q0' q1'))) rfl rfl) rfl ?_
       refine p_on rfl (by rw [hops140]; rfl) ?_
       refine p_run _ (x_cmp (k := .u64) (m := (uv (rG S' q0' q1'))) (n := (uv (rG S' q0' q1'))) .neq false rfl rfl rfl (by unfold cmpB; simp) rfl) rfl ?_
       refine p_run _ (x_pick false (.bool true) (.bool false) (.bool false) rfl rfl rfl rfl rfl) rfl ?_
       refine p_run _ (x_move (.bool false) rfl rfl) rfl ?_
       refine p_on rfl (by rw [hops140]; rfl) ?_
       refine p_run (l' := (.int .i64 pages :: .slice (some ad) l0.length c0 :: undef :: undef :: q46.a :: .pointer (some ⟨D23, 0, none⟩) :: .pointer (some ⟨g35, 0, none⟩) :: undef :: .pointer (some ⟨g83, 0, none⟩) :: .int .u64 n_ :: .int .u64 n_ :: .int .i64 e_ :: .int .i64 e_ :: q98.a :: q98.b :: .slice oa115 ((rB S' q0' q1').length) nc116 :: .int .u64 (uv (rG S' q0' q1')) :: .int .i64 (reE S' q0' q1') :: .slice A136 ((rB S' q0' q1').length) c137 :: .int .u64 (uv (rG S' q0' q1')) :: .int .i64 (reE S' q0' q1') :: .int .u64 (uv (nG S' q0' q1')) :: .int .i64 (nE S' q0' q1') :: .int .u64 (uv (nG S' q0' q1')) :: .int .i64 (nE S' q0' q1') :: undef :: undef :: undef :: .bool true :: .bool false :: .int .i64 pages :: .bool false :: V8.l qz39 (.slice (some ad) l0.length c0 :: .int .i64 (l0.length : Int) :: .int .i64 (i : Int) :: .bool (decide ((i : Int) < (l0.length : Int))) :: .pointer (some ((ad).add (i * 5))) :: .agg ([.int .i64 kd, .int .i64 aa, .int .u64 (uv g_), .slice A3 xs.length c3, .slice A4 kp.length c4] : List Value).toArray :: q98.c :: q98.d :: q98.e :: q98.f :: q98.g :: q98.h :: V8.l q99 (V8.l q100 (V8.l q101 (V8.l q102 (V8.l q103 (V8.l q104 (V8.l q105 (V8.l q106 (V8.l q107 (V8.l q108 (q109.a :: .tuple [.slice oa115 ((rB S' q0' q1').length) nc116, .int .u64 (uv (rG S' q0' q1')), .int .i64 (reE S' q0' q1')].toArray :: .pointer (some ⟨D23, 0, none⟩) :: .tuple [.slice oa115 ((rB S' q0' q1').length) nc116, .int .u64 (uv (rG S' q0' q1')), .int .i64 (reE S' q0' q1')].toArray :: .slice oa115 ((rB S' q0' q1').length) nc116 :: .int .u64 (uv (rG S' q0' q1')) :: .int .i64 (reE S' q0' q1') :: .tuple [.slice A136 ((rB S' q0' q1').length) c137, .int .u64 (uv (rG S' q0' q1')), .int .i64 (reE S' q0' q1')].toArray :: rkV vs' vb' vp' R' :: .tuple [.slice A136 ((rB S' q0' q1').length) c137, .int .u64 (uv (rG S' q0' q1')), .int .i64 (reE S' q0' q1')].toArray :: .slice A136 ((rB S' q0' q1').length) c137 :: .int .u64 (uv (rG S' q0' q1')) :: .int .i64 (reE S' q0' q1') :: .tuple [.int .u64 (uv (nG S' q0' q1')), .int .i64 (nE S' q0' q1')].toArray :: .pointer (some ⟨D23, 0, none⟩) :: .tuple [.int .u64 (uv (nG S' q0' q1')), .int .i64 (nE S' q0' q1')].toArray :: .int .u64 (uv (nG S' q0' q1')) :: .int .i64 (nE S' q0' q1') :: .tuple [.int .u64 (uv (nG S' q0' q1')), .int .i64 (nE S' q0' q1')].toArray :: rkV vs' vb' vp' R' :: .tuple [.int .u64 (uv (nG S' q0' q1')), .int .i64 (nE S' q0' q1')].toArray :: .int .u64 (uv (nG S' q0' q1')) :: .int .i64 (nE S' q0' q1') :: .int .u64 n_ :: .int .u64 n_ :: .bool false :: .bool false :: .int .i64 e_ :: .int .i64 e_ :: .bool false :: .bool false :: .bool false :: .slice oa115 ((rB S' q0' q1').length) nc116 :: .string (strB (rB S' q0' q1')) :: .slice A136 ((rB S' q0' q1').length) c137 :: .string (strB (rB S' q0' q1')) :: .bool false :: .bool false :: .bool false :: .int .u64 (uv (rG S' q0' q1')) :: .int .u64 (uv (rG S' q0' q1')) :: .bool false :: .bool false :: .bool false :: .int .i64 (reE S' q0' q1') :: V8.l q65 (q66.a :: q66.b :: q66.c :: q66.d :: q66.e :: q66.f :: U16l5r (U4l5r ([])))))))))))))))) _ (x_move (.int .i64 (reE S' q0' q1')) rfl rfl) rfl ?_
       refine p_on rfl (by rw [hops140]; rfl) ?_
       refine p_run _ (x_move (.int .i64 (reE S' q0' q1')) rfl rfl) rfl ?_
       refine p_on rfl (by rw [hops140]; rfl) ?_
       refine p_run _ (x_cmp (k := .i64) (m := (reE S' q0' q1')) (n := (reE S' q0' q1')) .neq false rfl rfl rfl (by unfold cmpB; simp) rfl) rfl ?_
       refine p_run _ (x_pick false (.bool true) (.bool false) (.bool false) rfl rfl rfl rfl rfl) rfl ?_
       refine p_run _ (x_move (.bool false) rfl rfl) rfl ?_
       refine p_on rfl (by rw [hops140]; rfl) ?_
       refine p_run _ (x_move (.int .u64 (uv (nG S' q0' q1'))) rfl rfl) rfl ?_
       refine p_on rfl (by rw [hops140]; rfl) ?_
       refine p_run _ (x_move (.int .u64 (uv (nG S' q0' q1'))) rfl rfl) rfl ?_
       refine p_on rfl (by rw [hops140]; rfl) ?_
       refine p_run _ (x_cmp (k := .u64) (m := (uv (nG S' q0' q1'))) (n := (uv (nG S' q0' q1'))) .neq false rfl rfl rfl (by unfold cmpB; simp) rfl) rfl ?_
       refine p_run (l' := (.int .i64 pages :: .slice (some ad) l0.length c0 :: undef :: undef :: q46.a :: .pointer (some ⟨D23, 0, none⟩) :: .pointer (some ⟨g35, 0, none⟩) :: undef :: .pointer (some ⟨g83, 0, none⟩) :: .int .u64 n_ :: .int .u64 n_ :: .int .i64 e_ :: .int .i64 e_ :: q98.a :: q98.b :: .slice oa115 ((rB S' q0' q1').length) nc116 :: .int .u64 (uv (rG S' q0' q1')) :: .int .i64 (reE S' q0' q1') :: .slice A136 ((rB S' q0' q1').length) c137 :: .int .u64 (uv (rG S' q0' q1')) :: .int .i64 (reE S' q0' q1') :: .int .u64 (uv (nG S' q0' q1')) :: .int .i64 (nE S' q0' q1') :: .int .u64 (uv (nG S' q0' q1')) :: .int .i64 (nE S' q0' q1') :: undef :: undef :: undef :: .bool true :: .bool false :: .int .i64 pages :: .bool false :: V8.l qz39 (.slice (some ad) l0.length c0 :: .int .i64 (l0.length : Int) :: .int .i64 (i : Int) :: .bool (decide ((i : Int) < (l0.length : Int))) :: .pointer (some ((ad).add (i * 5))) :: .agg ([.int .i64 kd, .int .i64 aa, .int .u64 (uv g_), .slice A3 xs.length c3, .slice A4 kp.length c4] : List Value).toArray :: q98.c :: q98.d :: q98.e :: q98.f :: q98.g :: q98.h :: V8.l q99 (V8.l q100 (V8.l q101 (V8.l q102 (V8.l q103 (V8.l q104 (V8.l q105 (V8.l q106 (V8.l q107 (V8.l q108 (q109.a :: .tuple [.slice oa115 ((rB S' q0' q1').length) nc116, .int .u64 (uv (rG S' q0' q1')), .int .i64 (reE S' q0' q1')].toArray :: .pointer (some ⟨D23, 0, none⟩) :: .tuple [.slice oa115 ((rB S' q0' q1').length) nc116, .int .u64 (uv (rG S' q0' q1')), .int .i64 (reE S' q0' q1')].toArray :: .slice oa115 ((rB S' q0' q1').length) nc116 :: .int .u64 (uv (rG S' q0' q1')) :: .int .i64 (reE S' q0' q1') :: .tuple [.slice A136 ((rB S' q0' q1').length) c137, .int .u64 (uv (rG S' q0' q1')), .int .i64 (reE S' q0' q1')].toArray :: rkV vs' vb' vp' R' :: .tuple [.slice A136 ((rB S' q0' q1').length) c137, .int .u64 (uv (rG S' q0' q1')), .int .i64 (reE S' q0' q1')].toArray :: .slice A136 ((rB S' q0' q1').length) c137 :: .int .u64 (uv (rG S' q0' q1')) :: .int .i64 (reE S' q0' q1') :: .tuple [.int .u64 (uv (nG S' q0' q1')), .int .i64 (nE S' q0' q1')].toArray :: .pointer (some ⟨D23, 0, none⟩) :: .tuple [.int .u64 (uv (nG S' q0' q1')), .int .i64 (nE S' q0' q1')].toArray :: .int .u64 (uv (nG S' q0' q1')) :: .int .i64 (nE S' q0' q1') :: .tuple [.int .u64 (uv (nG S' q0' q1')), .int .i64 (nE S' q0' q1')].toArray :: rkV vs' vb' vp' R' :: .tuple [.int .u64 (uv (nG S' q0' q1')), .int .i64 (nE S' q0' q1')].toArray :: .int .u64 (uv (nG S' q0' q1')) :: .int .i64 (nE S' q0' q1') :: .int .u64 n_ :: .int .u64 n_ :: .bool false :: .bool false :: .int .i64 e_ :: .int .i64 e_ :: .bool false :: .bool false :: .bool false :: .slice oa115 ((rB S' q0' q1').length) nc116 :: .string (strB (rB S' q0' q1')) :: .slice A136 ((rB S' q0' q1').length) c137 :: .string (strB (rB S' q0' q1')) :: .bool false :: .bool false :: .bool false :: .int .u64 (uv (rG S' q0' q1')) :: .int .u64 (uv (rG S' q0' q1')) :: .bool false :: .bool false :: .bool false :: .int .i64 (reE S' q0' q1') :: .int .i64 (reE S' q0' q1') :: .bool false :: .bool false :: .bool false :: .int .u64 (uv (nG S' q0' q1')) :: .int .u64 (uv (nG S' q0' q1')) :: .bool false :: .bool false :: q66.a :: q66.b :: q66.c :: q66.d :: q66.e :: q66.f :: U16l5r (U4l5r ([]))))))))))))))) _ (x_pick false (.bool true) (.bool false) (.bool false) rfl rfl rfl rfl rfl) rfl ?_
       refine p_run _ (x_move (.bool false) rfl rfl) rfl ?_
       refine p_on rfl (by rw [hops140]; rfl) ?_
       refine p_run _ (x_move (.int .i64 (nE S' q0' q1')) rfl rfl) rfl ?_
       refine p_on rfl (by rw [hops140]; rfl) ?_
       refine p_run _ (x_move (.int .i64 (nE S' q0' q1')) rfl rfl) rfl ?_
       refine p_on rfl (by rw [hops140]; rfl) ?_
       refine p_run _ (x_cmp (k := .i64) (m := (nE S' q0' q1')) (n := (nE S' q0' q1')) .neq false rfl rfl rfl (by unfold cmpB; simp) rfl) rfl ?_
       refine p_run _ (x_pick false (.bool true) (.bool false) (.bool false) rfl rfl rfl rfl rfl) rfl ?_
       clear hops140
       refine wpList_nil ?_
       refine hK135 _ _ ?_
       refine c_false rfl ?_
       refine wp_skip ?_
       refine hK78 _ _ ?_
       refine c_region (fun ops143 hops142 => ?_)
       clear hops142
       refine p_run _ (x_arith (k := .i64) (m := (i : Int)) (n := 1) .add (((i + 1 : Nat) : Int)) rfl rfl rfl (show IntKind.i64.wrap ((i : Int) + 1) = ((i + 1 : Nat) : Int) from ((wr64 (by omega)).trans (by omega))) rfl) rfl ?_
       refine p_run _ (x_move (.int .i64 ((i + 1 : Nat) : Int)) rfl rfl) rfl ?_
       refine wpList_nil ?_
       refine fr_at (l' := (.int .i64 pages :: .slice (some ad) l0.length c0 :: undef :: undef :: q46.a :: .pointer (some ⟨D23, 0, none⟩) :: .pointer (some ⟨g35, 0, none⟩) :: undef :: .pointer (some ⟨g83, 0, none⟩) :: .int .u64 n_ :: .int .u64 n_ :: .int .i64 e_ :: .int .i64 e_ :: q98.a :: q98.b :: .slice oa115 ((rB S' q0' q1').length) nc116 :: .int .u64 (uv (rG S' q0' q1')) :: .int .i64 (reE S' q0' q1') :: .slice A136 ((rB S' q0' q1').length) c137 :: .int .u64 (uv (rG S' q0' q1')) :: .int .i64 (reE S' q0' q1') :: .int .u64 (uv (nG S' q0' q1')) :: .int .i64 (nE S' q0' q1') :: .int .u64 (uv (nG S' q0' q1')) :: .int .i64 (nE S' q0' q1') :: undef :: undef :: undef :: .bool true :: .bool false :: .int .i64 pages :: .bool false :: V8.l qz39 (.slice (some ad) l0.length c0 :: .int .i64 (l0.length : Int) :: .int .i64 ((i + 1 : Nat) : Int) :: .bool (decide ((i : Int) < (l0.length : Int))) :: .pointer (some ((ad).add (i * 5))) :: .agg ([.int .i64 kd, .int .i64 aa, .int .u64 (uv g_), .slice A3 xs.length c3, .slice A4 kp.length c4] : List Value).toArray :: q98.c :: q98.d :: q98.e :: q98.f :: q98.g :: q98.h :: V8.l q99 (V8.l q100 (V8.l q101 (V8.l q102 (V8.l q103 (V8.l q104 (V8.l q105 (V8.l q106 (V8.l q107 (V8.l q108 (q109.a :: .tuple [.slice oa115 ((rB S' q0' q1').length) nc116, .int .u64 (uv (rG S' q0' q1')), .int .i64 (reE S' q0' q1')].toArray :: .pointer (some ⟨D23, 0, none⟩) :: .tuple [.slice oa115 ((rB S' q0' q1').length) nc116, .int .u64 (uv (rG S' q0' q1')), .int .i64 (reE S' q0' q1')].toArray :: .slice oa115 ((rB S' q0' q1').length) nc116 :: .int .u64 (uv (rG S' q0' q1')) :: .int .i64 (reE S' q0' q1') :: .tuple [.slice A136 ((rB S' q0' q1').length) c137, .int .u64 (uv (rG S' q0' q1')), .int .i64 (reE S' q0' q1')].toArray :: rkV vs' vb' vp' R' :: .tuple [.slice A136 ((rB S' q0' q1').length) c137, .int .u64 (uv (rG S' q0' q1')), .int .i64 (reE S' q0' q1')].toArray :: .slice A136 ((rB S' q0' q1').length) c137 :: .int .u64 (uv (rG S' q0' q1')) :: .int .i64 (reE S' q0' q1') :: .tuple [.int .u64 (uv (nG S' q0' q1')), .int .i64 (nE S' q0' q1')].toArray :: .pointer (some ⟨D23, 0, none⟩) :: .tuple [.int .u64 (uv (nG S' q0' q1')), .int .i64 (nE S' q0' q1')].toArray :: .int .u64 (uv (nG S' q0' q1')) :: .int .i64 (nE S' q0' q1') :: .tuple [.int .u64 (uv (nG S' q0' q1')), .int .i64 (nE S' q0' q1')].toArray :: rkV vs' vb' vp' R' :: .tuple [.int .u64 (uv (nG S' q0' q1')), .int .i64 (nE S' q0' q1')].toArray :: .int .u64 (uv (nG S' q0' q1')) :: .int .i64 (nE S' q0' q1') :: .int .u64 n_ :: .int .u64 n_ :: .bool false :: .bool false :: .int .i64 e_ :: .int .i64 e_ :: .bool false :: .bool false :: .bool false :: .slice oa115 ((rB S' q0' q1').length) nc116 :: .string (strB (rB S' q0' q1')) :: .slice A136 ((rB S' q0' q1').length) c137 :: .string (strB (rB S' q0' q1')) :: .bool false :: .bool false :: .bool false :: .int .u64 (uv (rG S' q0' q1')) :: .int .u64 (uv (rG S' q0' q1')) :: .bool false :: .bool false :: .bool false :: .int .i64 (reE S' q0' q1') :: .int .i64 (reE S' q0' q1') :: .bool false :: .bool false :: .bool false :: .int .u64 (uv (nG S' q0' q1')) :: .int .u64 (uv (nG S' q0' q1')) :: .bool false :: .bool false :: .bool false :: .int .i64 (nE S' q0' q1') :: .int .i64 (nE S' q0' q1') :: .bool false :: .bool false :: .int .i64 ((i + 1 : Nat) : Int) :: U16l5r (U4l5r ([]))))))))))))))) rfl ?_
       refine hJ68 (i + 1, S', R', v', vs', vb', vp') _ _ ?_ ?_
       ·show l0.length - (i + 1) < l0.length - i; omega
       ·exact ⟨⟨q46.a, .pointer (some ⟨g83, 0, none⟩), .int .u64 n_, .int .u64 n_, .int .i64 e_, .int .i64 e_, q98.a, q98.b⟩, ⟨.slice oa115 ((rB S' q0' q1').length) nc116, .int .u64 (uv (rG S' q0' q1')), .int .i64 (reE S' q0' q1'), .slice A136 ((rB S' q0' q1').length) c137, .int .u64 (uv (rG S' q0' q1')), .int .i64 (reE S' q0' q1'), .int .u64 (uv (nG S' q0' q1')), .int .i64 (nE S' q0' q1')⟩, ⟨.int .u64 (uv (nG S' q0' q1')), .int .i64 (nE S' q0' q1'), .bool (decide ((i : Int) < (l0.length : Int))), .pointer (some ((ad).add (i * 5))), .agg ([.int .i64 kd, .int .i64 aa, .int .u64 (uv g_), .slice A3 xs.length c3, .slice A4 kp.length c4] : List Value).toArray, q98.c, q98.d, q98.e⟩, ⟨q98.f, q98.g, q98.h, q99.a, q99.b, q99.c, q99.d, q99.e⟩, ⟨q99.f, q99.g, q99.h, q100.a, q100.b, q100.c, q100.d, q100.e⟩, ⟨q100.f, q100.g, q100.h, q101.a, q101.b, q101.c, q101.d, q101.e⟩, ⟨q101.f, q101.g, q101.h, q102.a, q102.b, q102.c, q102.d, q102.e⟩, ⟨q102.f, q102.g, q102.h, q103.a, q103.b, q103.c, q103.d, q103.e⟩, ⟨q103.f, q103.g, q103.h, q104.a, q104.b, q104.c, q104.d, q104.e⟩, ⟨q104.f, q104.g, q104.h, q105.a, q105.b, q105.c, q105.d, q105.e⟩, ⟨q105.f, q105.g, q105.h, q106.a, q106.b, q106.c, q106.d, q106.e⟩, ⟨q106.f, q106.g, q106.h, q107.a, q107.b, q107.c, q107.d, q107.e⟩, ⟨q107.f, q107.g, q107.h, q108.a, q108.b, q108.c, q108.d, q108.e⟩, ⟨q108.f, q108.g, q108.h, q109.a, .tuple [.slice oa115 ((rB S' q0' q1').length) nc116, .int .u64 (uv (rG S' q0' q1')), .int .i64 (reE S' q0' q1')].toArray, .pointer (some ⟨D23, 0, none⟩), .tuple [.slice oa115 ((rB S' q0' q1').length) nc116, .int .u64 (uv (rG S' q0' q1')), .int .i64 (reE S' q0' q1')].toArray, .slice oa115 ((rB S' q0' q1').length) nc116⟩, ⟨.int .u64 (uv (rG S' q0' q1')), .int .i64 (reE S' q0' q1'), .tuple [.slice A136 ((rB S' q0' q1').length) c137, .int .u64 (uv (rG S' q0' q1')), .int .i64 (reE S' q0' q1')].toArray, rkV vs' vb' vp' R', .tuple [.slice A136 ((rB S' q0' q1').length) c137, .int .u64 (uv (rG S' q0' q1')), .int .i64 (reE S' q0' q1')].toArray, .slice A136 ((rB S' q0' q1').length) c137, .int .u64 (uv (rG S' q0' q1')), .int .i64 (reE S' q0' q1')⟩, ⟨.tuple [.int .u64 (uv (nG S' q0' q1')), .int .i64 (nE S' q0' q1')].toArray, .pointer (some ⟨D23, 0, none⟩), .tuple [.int .u64 (uv (nG S' q0' q1')), .int .i64 (nE S' q0' q1')].toArray, .int .u64 (uv (nG S' q0' q1')), .int .i64 (nE S' q0' q1'), .tuple [.int .u64 (uv (nG S' q0' q1')), .int .i64 (nE S' q0' q1')].toArray, rkV vs' vb' vp' R', .tuple [.int .u64 (uv (nG S' q0' q1')), .int .i64 (nE S' q0' q1')].toArray⟩, ⟨.int .u64 (uv (nG S' q0' q1')), .int .i64 (nE S' q0' q1'), .int .u64 n_, .int .u64 n_, .bool false, .bool false, .int .i64 e_, .int .i64 e_⟩, ⟨.bool false, .bool false, .bool false, .slice oa115 ((rB S' q0' q1').length) nc116, .string (strB (rB S' q0' q1')), .slice A136 ((rB S' q0' q1').length) c137, .string (strB (rB S' q0' q1')), .bool false⟩, ⟨.bool false, .bool false, .int .u64 (uv (rG S' q0' q1')), .int .u64 (uv (rG S' q0' q1')), .bool false, .bool false, .bool false, .int .i64 (reE S' q0' q1')⟩, ⟨.int .i64 (reE S' q0' q1'), .bool false, .bool false, .bool false, .int .u64 (uv (nG S' q0' q1')), .int .u64 (uv (nG S' q0' q1')), .bool false, .bool false⟩, ⟨.bool false, .int .i64 (nE S' q0' q1'), .int .i64 (nE S' q0' q1'), .bool false, .bool false, .int .i64 ((i + 1 : Nat) : Int), undef, undef⟩, rfl, (((((((((((HS.front 7 rfl).drop.front 7 rfl).drop.front 8 rfl).drop.front 7 rfl).front 3 rfl).front 3 rfl).front 3 rfl).front 7 rfl).front 7 rfl).front 7 rfl).front 7 rfl), ⟨hRD2, hG2, hBY2, by omega⟩⟩
     clear hK96
     refine wp_seq_k (fun K144 hK145 => ?_)
     rcases rdkd_split kd with rfl | rfl | rfl | rfl | rfl | rfl | hk
     ·refine c_region (fun ops147 hops146 => ?_)
      clear hops146
      refine p_run _ (x_field (j := 0) _ _ rfl rfl Try.underlying46 rfl (by rfl) rfl) rfl ?_
      refine p_run _ (x_load (.int .i64 0) rfl rfl (bkCell (HS.get (.head _)) 0 _ rfl) (by rfl)) rfl ?_
      refine wpList_nil ?_
      refine hK145 _ _ ?_
      refine wp_block ?_
      refine wp_seq_k (fun K148 hK149 => ?_)
      refine c_region (fun ops151 hops150 => ?_)
      clear hops150
      refine p_run _ (x_cmp (k := .i64) (m := 0) (n := 0) .eql true rfl rfl rfl (by decide) rfl) rfl ?_
      refine p_run _ (x_assign (.bool true) rfl rfl) rfl ?_
      refine wpList_nil ?_
      refine hK149 _ _ ?_
      refine c_true rfl ?_
      refine wp_seq_k (fun K152 hK153 => ?_)
      refine c_region (fun ops155 hops154 => ?_)
      clear hops154
      refine St.wLit0 HS kByte rfl 1 (.int .u8 0) Try.underlying24 (by kernel_rfl) ?_
      clear HS
      intro v156 w157 HS
      refine p_run _ (x_field (j := 3) _ _ rfl rfl Try.underlying46 rfl (by rfl) rfl) rfl ?_
      refine p_run _ (x_load (.slice A3 xs.length c3) rfl rfl (bkCell (HS.get (.tail _ (.head _))) 3 _ rfl) (by rfl)) rfl ?_
      refine St.wAppend HS (.int .u8 0) 1 Try.underlying24 (by kernel_rfl) rfl (by decide) (by decide) xs _ _ _ rfl rfl (Rd.below hC3 HS.belowOf) (fun _ _ h => h) (by simp; omega) ?_
      clear HS
      intro v158 w159 HS
      refine fr_to (l' := (.int .i64 pages :: .slice (some ad) l0.length c0 :: undef :: undef :: q46.a :: .pointer (some ⟨D23, 0, none⟩) :: .pointer (some ⟨g35, 0, none⟩) :: undef :: .pointer (some ⟨g83, 0, none⟩) :: .int .u64 0 :: .int .u64 0 :: .int .i64 0 :: .int .i64 0 :: q46.g :: q46.h :: V8.l q47 (q48.a :: q48.b :: undef :: undef :: undef :: .bool true :: .bool false :: .int .i64 pages :: .bool false :: V8.l qz39 (.slice (some ad) l0.length c0 :: .int .i64 (l0.length : Int) :: .int .i64 (i : Int) :: .bool (decide ((i : Int) < (l0.length : Int))) :: .pointer (some ((ad).add (i * 5))) :: .agg ([.int .i64 0, .int .i64 aa, .int .u64 (uv g_), .slice A3 xs.length c3, .slice A4 kp.length c4] : List Value).toArray :: .pointer (some ⟨g83, 0, none⟩) :: .int .i64 0 :: .bool true :: .bool true :: v156 :: .pointer (some ⟨g83, 3, none⟩) :: .slice A3 xs.length c3 :: v158 :: q49.f :: q49.g :: q49.h :: V8.l q50 (V8.l q51 (V8.l q52 (V8.l q53 (V8.l q54 (V8.l q55 (V8.l q56 (V8.l q57 (V8.l q58 (V8.l q59 (V8.l q60 (V8.l q61 (V8.l q62 (V8.l q63 (V8.l q64 (V8.l q65 (q66.a :: q66.b :: q66.c :: q66.d :: q66.e :: q66.f :: U16l5r (U4l5r ([])))))))))))))))))))))) rfl ?_
      refine p_run _ (x_assign (v158) rfl rfl) rfl ?_
      refine wpList_nil ?_
      refine hK153 _ _ ?_
      refine wp_seq_k (fun K160 hK161 => ?_)
      skip
      ·rw [List.nil_append] at HS
       obtain ⟨A162, c163, hv164, hcp165, -⟩ := row_reads (HS.get (.head _))
       subst hv164
       refine c_region (fun ops167 hops166 => ?_)
       clear hops166
       refine p_run _ (x_move (.pointer (some ⟨D23, 0, none⟩)) rfl rfl) rfl ?_
       refine p_run _ (x_move (.slice A162 xs.length c163) rfl rfl) rfl ?_
       refine w_call [.pointer (some ⟨D23, 0, none⟩), .slice A162 xs.length c163] Try.func10 (by kernel_rfl) (by rfl) rfl ?_
       replace HS := ((((HS.front 5 rfl).front 5 rfl).front 5 rfl).front 5 rfl)
       refine (write_root HS hG (by omega) hp0 hp1 hl0 hl1 xs (fun w X hX => ⟨(row_rd (hX.hs.right.1 _ (.head _))).2.2, (row_rd (hX.hs.right.1 _ (.head _))).2.1⟩)).mono ?_
       clear HS
       rintro e w169 ⟨v168, rfl, HS⟩
       have hgd170 : Dk.good (wS S q0 q1 xs) (i + 1) := good_wS hG xs
       refine ⟨_, rfl, ?_⟩
       refine p_run _ (x_move (.tuple [.int .u64 (uv (wG S q0 q1 xs)), .int .i64 (wE S q0 q1 xs)].toArray) rfl rfl) rfl ?_
       refine p_run _ (x_extract (vs := [.int .u64 (uv (wG S q0 q1 xs)), .int .i64 (wE S q0 q1 xs)]) 0 (.int .u64 (uv (wG S q0 q1 xs))) rfl rfl rfl) rfl ?_
       refine p_run _ (x_extract (vs := [.int .u64 (uv (wG S q0 q1 xs)), .int .i64 (wE S q0 q1 xs)]) 1 (.int .i64 (wE S q0 q1 xs)) rfl rfl rfl) rfl ?_
       refine p_run (l' := (.int .i64 pages :: .slice (some ad) l0.length c0 :: undef :: undef :: q46.a :: .pointer (some ⟨D23, 0, none⟩) :: .pointer (some ⟨g35, 0, none⟩) :: undef :: .pointer (some ⟨g83, 0, none⟩) :: .int .u64 (uv (wG S q0 q1 xs)) :: .int .u64 0 :: .int .i64 0 :: .int .i64 0 :: .slice A162 xs.length c163 :: q46.h :: V8.l q47 (q48.a :: q48.b :: undef :: undef :: undef :: .bool true :: .bool false :: .int .i64 pages :: .bool false :: V8.l qz39 (.slice (some ad) l0.length c0 :: .int .i64 (l0.length : Int) :: .int .i64 (i : Int) :: .bool (decide ((i : Int) < (l0.length : Int))) :: .pointer (some ((ad).add (i * 5))) :: .agg ([.int .i64 0, .int .i64 aa, .int .u64 (uv g_), .slice A3 xs.length c3, .slice A4 kp.length c4] : List Value).toArray :: .pointer (some ⟨g83, 0, none⟩) :: .int .i64 0 :: .bool true :: .bool true :: v156 :: .pointer (some ⟨g83, 3, none⟩) :: .slice A3 xs.length c3 :: .slice A162 xs.length c163 :: .tuple [.int .u64 (uv (wG S q0 q1 xs)), .int .i64 (wE S q0 q1 xs)].toArray :: .pointer (some ⟨D23, 0, none⟩) :: .slice A162 xs.length c163 :: .tuple [.int .u64 (uv (wG S q0 q1 xs)), .int .i64 (wE S q0 q1 xs)].toArray :: .int .u64 (uv (wG S q0 q1 xs)) :: .int .i64 (wE S q0 q1 xs) :: q50.d :: q50.e :: q50.f :: q50.g :: q50.h :: V8.l q51 (V8.l q52 (V8.l q53 (V8.l q54 (V8.l q55 (V8.l q56 (V8.l q57 (V8.l q58 (V8.l q59 (V8.l q60 (V8.l q61 (V8.l q62 (V8.l q63 (V8.l q64 (V8.l q65 (q66.a :: q66.b :: q66.c :: q66.d :: q66.e :: q66.f :: U16l5r (U4l5r ([]))))))))))))))))))))) _ (x_assign (.int .u64 (uv (wG S q0 q1 xs))) rfl rfl) rfl ?_
       refine p_run _ (x_assign (.int .i64 (wE S q0 q1 xs)) rfl rfl) rfl ?_
       refine wpList_nil ?_
       refine hK161 _ _ ?_
       refine c_region (fun ops172 hops171 => ?_)
       clear hops171
       refine p_run _ (x_loads [vs, vb, vp, .bool R.counted, .int .i64 R.left, .bool R.down] 6 rfl rfl (bkCells (HS.get (.tail _ (.tail _ (.tail _ (.tail _ (.tail _ (.tail _ (.tail _ (.tail _ (.tail _ (.head _))))))))))) 0 _ rfl) (by rfl) (by kernel_rfl) rfl) rfl ?_
       refine p_run _ (x_field (j := 3) _ _ rfl rfl Try.underlying46 rfl (by rfl) rfl) rfl ?_
       refine p_run _ (x_load (.slice A3 xs.length c3) rfl rfl (bkCell (HS.get (.tail _ (.tail _ (.tail _ (.tail _ (.tail _ (.head _))))))) 3 _ rfl) (by rfl)) rfl ?_
       refine w_call [rkV vs vb vp R, .slice A3 xs.length c3] Try.func19 (by kernel_rfl) (by rfl) rfl ?_
       replace HS := (((HS.front 8 rfl).front 8 rfl).front 8 rfl)
       refine (rfput_any HS hRD hRO (by omega) hp0 hp1 hl0 hl1 hG xs (fun w X hX => ⟨Rd.below hC3 hX.belowOf, hl3⟩)).mono ?_
       clear HS
       rintro e w176 ⟨v173, v174, v175, rfl, HS⟩
       refine ⟨_, rfl, ?_⟩
       refine p_run _ (x_move (.tuple [rkV v173 v174 v175 (wR S R q0 q1 xs), .int .u64 (uv (wG S q0 q1 xs)), .int .i64 (wE S q0 q1 xs)].toArray) rfl rfl) rfl ?_
       refine p_run _ (x_extract (vs := [rkV v173 v174 v175 (wR S R q0 q1 xs), .int .u64 (uv (wG S q0 q1 xs)), .int .i64 (wE S q0 q1 xs)]) 0 (rkV v173 v174 v175 (wR S R q0 q1 xs)) rfl rfl rfl) rfl ?_
       refine p_run (l' := (.int .i64 pages :: .slice (some ad) l0.length c0 :: undef :: undef :: q46.a :: .pointer (some ⟨D23, 0, none⟩) :: .pointer (some ⟨g35, 0, none⟩) :: undef :: .pointer (some ⟨g83, 0, none⟩) :: .int .u64 (uv (wG S q0 q1 xs)) :: .int .u64 0 :: .int .i64 (wE S q0 q1 xs) :: .int .i64 0 :: .slice A162 xs.length c163 :: q46.h :: V8.l q47 (q48.a :: q48.b :: undef :: undef :: undef :: .bool true :: .bool false :: .int .i64 pages :: .bool false :: V8.l qz39 (.slice (some ad) l0.length c0 :: .int .i64 (l0.length : Int) :: .int .i64 (i : Int) :: .bool (decide ((i : Int) < (l0.length : Int))) :: .pointer (some ((ad).add (i * 5))) :: .agg ([.int .i64 0, .int .i64 aa, .int .u64 (uv g_), .slice A3 xs.length c3, .slice A4 kp.length c4] : List Value).toArray :: .pointer (some ⟨g83, 0, none⟩) :: .int .i64 0 :: .bool true :: .bool true :: v156 :: .pointer (some ⟨g83, 3, none⟩) :: .slice A3 xs.length c3 :: .slice A162 xs.length c163 :: .tuple [.int .u64 (uv (wG S q0 q1 xs)), .int .i64 (wE S q0 q1 xs)].toArray :: .pointer (some ⟨D23, 0, none⟩) :: .slice A162 xs.length c163 :: .tuple [.int .u64 (uv (wG S q0 q1 xs)), .int .i64 (wE S q0 q1 xs)].toArray :: .int .u64 (uv (wG S q0 q1 xs)) :: .int .i64 (wE S q0 q1 xs) :: .tuple [rkV v173 v174 v175 (wR S R q0 q1 xs), .int .u64 (uv (wG S q0 q1 xs)), .int .i64 (wE S q0 q1 xs)].toArray :: rkV vs vb vp R :: .pointer (some ⟨g83, 3, none⟩) :: .slice A3 xs.length c3 :: .tuple [rkV v173 v174 v175 (wR S R q0 q1 xs), .int .u64 (uv (wG S q0 q1 xs)), .int .i64 (wE S q0 q1 xs)].toArray :: rkV v173 v174 v175 (wR S R q0 q1 xs) :: .int .u64 (uv (wG S q0 q1 xs)) :: q51.c :: q51.d :: q51.e :: q51.f :: q51.g :: q51.h :: V8.l q52 (V8.l q53 (V8.l q54 (V8.l q55 (V8.l q56 (V8.l q57 (V8.l q58 (V8.l q59 (V8.l q60 (V8.l q61 (V8.l q62 (V8.l q63 (V8.l q64 (V8.l q65 (q66.a :: q66.b :: q66.c :: q66.d :: q66.e :: q66.f :: U16l5r (U4l5r ([])))))))))))))))))))) _ (x_extract (vs := [rkV v173 v174 v175 (wR S R q0 q1 xs), .int .u64 (uv (wG S q0 q1 xs)), .int .i64 (wE S q0 q1 xs)]) 1 (.int .u64 (uv (wG S q0 q1 xs))) rfl rfl rfl) rfl ?_
       refine p_run _ (x_extract (vs := [rkV v173 v174 v175 (wR S R q0 q1 xs), .int .u64 (uv (wG S q0 q1 xs)), .int .i64 (wE S q0 q1 xs)]) 2 (.int .i64 (wE S q0 q1 xs)) rfl rfl rfl) rfl ?_
       refine St.stores (cs' := [v173, v174, v175, .bool ((wR S R q0 q1 xs).counted), .int .i64 ((wR S R q0 q1 xs).left), .bool ((wR S R q0 q1 xs).down)]) (HS.front 9 rfl) [v173, v174, v175, .bool ((wR S R q0 q1 xs).counted), .int .i64 ((wR S R q0 q1 xs).left), .bool ((wR S R q0 q1 xs).down)] 6 rfl rfl (all1 (row_one (HS.get (.head _))) (all1 (row_one (HS.get (.tail _ (.head _)))) (all1 (row_one (HS.get (.tail _ (.tail _ (.head _))))) (all1 rfl (all1 rfl (all1 rfl rfl)))))) (by kernel_rfl) rfl (by simp) rfl ?_
       clear HS
       intro w177 HS
       refine p_run _ (x_assign (.int .u64 (uv (wG S q0 q1 xs))) rfl rfl) rfl ?_
       refine p_run _ (x_assign (.int .i64 (wE S q0 q1 xs)) rfl rfl) rfl ?_
       refine wpList_nil ?_
       refine fr_at (l' := (.int .i64 pages :: .slice (some ad) l0.length c0 :: undef :: undef :: q46.a :: .pointer (some ⟨D23, 0, none⟩) :: .pointer (some ⟨g35, 0, none⟩) :: undef :: .pointer (some ⟨g83, 0, none⟩) :: .int .u64 (uv (wG S q0 q1 xs)) :: .int .u64 (uv (wG S q0 q1 xs)) :: .int .i64 (wE S q0 q1 xs) :: .int .i64 (wE S q0 q1 xs) :: .slice A162 xs.length c163 :: q46.h :: V8.l q47 (q48.a :: q48.b :: undef :: undef :: undef :: .bool true :: .bool false :: .int .i64 pages :: .bool false :: V8.l qz39 (.slice (some ad) l0.length c0 :: .int .i64 (l0.length : Int) :: .int .i64 (i : Int) :: .bool (decide ((i : Int) < (l0.length : Int))) :: .pointer (some ((ad).add (i * 5))) :: .agg ([.int .i64 0, .int .i64 aa, .int .u64 (uv g_), .slice A3 xs.length c3, .slice A4 kp.length c4] : List Value).toArray :: .pointer (some ⟨g83, 0, none⟩) :: .int .i64 0 :: .bool true :: .bool true :: v156 :: .pointer (some ⟨g83, 3, none⟩) :: .slice A3 xs.length c3 :: .slice A162 xs.length c163 :: .tuple [.int .u64 (uv (wG S q0 q1 xs)), .int .i64 (wE S q0 q1 xs)].toArray :: .pointer (some ⟨D23, 0, none⟩) :: .slice A162 xs.length c163 :: .tuple [.int .u64 (uv (wG S q0 q1 xs)), .int .i64 (wE S q0 q1 xs)].toArray :: .int .u64 (uv (wG S q0 q1 xs)) :: .int .i64 (wE S q0 q1 xs) :: .tuple [rkV v173 v174 v175 (wR S R q0 q1 xs), .int .u64 (uv (wG S q0 q1 xs)), .int .i64 (wE S q0 q1 xs)].toArray :: rkV vs vb vp R :: .pointer (some ⟨g83, 3, none⟩) :: .slice A3 xs.length c3 :: .tuple [rkV v173 v174 v175 (wR S R q0 q1 xs), .int .u64 (uv (wG S q0 q1 xs)), .int .i64 (wE S q0 q1 xs)].toArray :: rkV v173 v174 v175 (wR S R q0 q1 xs) :: .int .u64 (uv (wG S q0 q1 xs)) :: .int .i64 (wE S q0 q1 xs) :: q51.d :: q51.e :: q51.f :: q51.g :: q51.h :: V8.l q52 (V8.l q53 (V8.l q54 (V8.l q55 (V8.l q56 (V8.l q57 (V8.l q58 (V8.l q59 (V8.l q60 (V8.l q61 (V8.l q62 (V8.l q63 (V8.l q64 (V8.l q65 (q66.a :: q66.b :: q66.c :: q66.d :: q66.e :: q66.f :: U16l5r (U4l5r ([])))))))))))))))))))) rfl ?_
       exact hT97 (wS S q0 q1 xs) (wR S R q0 q1 xs) v168 v173 v174 v175 (uv (wG S q0 q1 xs)) (wE S q0 q1 xs) ⟨.slice A162 xs.length c163, q46.h, .pointer (some ⟨g83, 0, none⟩), .int .i64 0, .bool true, .bool true, v156, .pointer (some ⟨g83, 3, none⟩)⟩ ⟨.slice A3 xs.length c3, .slice A162 xs.length c163, .tuple [.int .u64 (uv (wG S q0 q1 xs)), .int .i64 (wE S q0 q1 xs)].toArray, .pointer (some ⟨D23, 0, none⟩), .slice A162 xs.length c163, .tuple [.int .u64 (uv (wG S q0 q1 xs)), .int .i64 (wE S q0 q1 xs)].toArray, .int .u64 (uv (wG S q0 q1 xs)), .int .i64 (wE S q0 q1 xs)⟩ ⟨.tuple [rkV v173 v174 v175 (wR S R q0 q1 xs), .int .u64 (uv (wG S q0 q1 xs)), .int .i64 (wE S q0 q1 xs)].toArray, rkV vs vb vp R, .pointer (some ⟨g83, 3, none⟩), .slice A3 xs.length c3, .tuple [rkV v173 v174 v175 (wR S R q0 q1 xs), .int .u64 (uv (wG S q0 q1 xs)), .int .i64 (wE S q0 q1 xs)].toArray, rkV v173 v174 v175 (wR S R q0 q1 xs), .int .u64 (uv (wG S q0 q1 xs)), .int .i64 (wE S q0 q1 xs)⟩ ⟨q51.d, q51.e, q51.f, q51.g, q51.h, q52.a, q52.b, q52.c⟩ ⟨q52.d, q52.e, q52.f, q52.g, q52.h, q53.a, q53.b, q53.c⟩ ⟨q53.d, q53.e, q53.f, q53.g, q53.h, q54.a, q54.b, q54.c⟩ ⟨q54.d, q54.e, q54.f, q54.g, q54.h, q55.a, q55.b, q55.c⟩ ⟨q55.d, q55.e, q55.f, q55.g, q55.h, q56.a, q56.b, q56.c⟩ ⟨q56.d, q56.e, q56.f, q56.g, q56.h, q57.a, q57.b, q57.c⟩ ⟨q57.d, q57.e, q57.f, q57.g, q57.h, q58.a, q58.b, q58.c⟩ ⟨q58.d, q58.e, q58.f, q58.g, q58.h, q59.a, q59.b, q59.c⟩ ⟨q59.d, undef, undef, undef, undef, undef, undef, undef⟩ _ ((((((((((HS.front 8 rfl).drop.front 8 rfl).front 1 rfl).front 4 rfl).front 4 rfl).front 4 rfl).front 8 rfl).front 8 rfl).front 8 rfl).front 8 rfl) ⟨rd_wS hRD hG xs, good_wS hG xs, by_wS hBY xs⟩
     ·refine c_region (fun ops179 hops178 => ?_)
      clear hops178
      refine p_run _ (x_field (j := 0) _ _ rfl rfl Try.underlying46 rfl (by rfl) rfl) rfl ?_
      refine p_run _ (x_load (.int .i64 1) rfl rfl (bkCell (HS.get (.head _)) 0 _ rfl) (by rfl)) rfl ?_
      refine wpList_nil ?_
      refine hK145 _ _ ?_
      refine wp_block ?_
      refine wp_seq_k (fun K180 hK181 => ?_)
      refine c_region (fun ops183 hops182 => ?_)
      clear hops182
      refine p_run _ (x_cmp (k := .i64) (m := 1) (n := 0) .eql false rfl rfl rfl (by decide) rfl) rfl ?_
      refine p_run _ (x_assign (.bool false) rfl rfl) rfl ?_
      refine wpList_nil ?_
      refine hK181 _ _ ?_
      refine c_false rfl ?_
      refine wp_seq_k (fun K184 hK185 => ?_)
      refine c_region (fun ops187 hops186 => ?_)
      clear hops186
      refine p_run _ (x_cmp (k := .i64) (m := 1) (n := 1) .eql true rfl rfl rfl (by decide) rfl) rfl ?_
      refine p_run _ (x_assign (.bool true) rfl rfl) rfl ?_
      refine wpList_nil ?_
      refine fr_at (l' := (.int .i64 pages :: .slice (some ad) l0.length c0 :: undef :: undef :: q46.a :: .pointer (some ⟨D23, 0, none⟩) :: .pointer (some ⟨g35, 0, none⟩) :: undef :: .pointer (some ⟨g83, 0, none⟩) :: .int .u64 0 :: .int .u64 0 :: .int .i64 0 :: .int .i64 0 :: q46.g :: q46.h :: V8.l q47 (q48.a :: q48.b :: undef :: undef :: undef :: .bool true :: .bool false :: .int .i64 pages :: .bool false :: V8.l qz39 (.slice (some ad) l0.length c0 :: .int .i64 (l0.length : Int) :: .int .i64 (i : Int) :: .bool (decide ((i : Int) < (l0.length : Int))) :: .pointer (some ((ad).add (i * 5))) :: .agg ([.int .i64 1, .int .i64 aa, .int .u64 (uv g_), .slice A3 xs.length c3, .slice A4 kp.length c4] : List Value).toArray :: .pointer (some ⟨g83, 0, none⟩) :: .int .i64 1 :: .bool false :: .bool false :: q49.b :: q49.c :: q49.d :: q49.e :: q49.f :: q49.g :: q49.h :: V8.l q50 (q51.a :: q51.b :: q51.c :: .bool true :: .bool true :: q51.f :: q51.g :: q51.h :: V8.l q52 (V8.l q53 (V8.l q54 (V8.l q55 (V8.l q56 (V8.l q57 (V8.l q58 (V8.l q59 (V8.l q60 (V8.l q61 (V8.l q62 (V8.l q63 (V8.l q64 (V8.l q65 (q66.a :: q66.b :: q66.c :: q66.d :: q66.e :: q66.f :: U16l5r (U4l5r ([]))))))))))))))))))))) rfl ?_
      refine hK185 _ _ ?_
      refine c_true rfl ?_
      refine wp_seq_k (fun K188 hK189 => ?_)
      refine free_frame (n := 12) (T := _) [0, 1, 0, 4, 0, 16, 48, 112, 252, 511, 0, 2047] [(0, 70), (1, 71), (2, 72), (3, 73), (4, 74), (5, 75), (6, 76), (7, 77), (8, 78), (9, 79), (10, 14)] (fun bq_ vq_ w_ => qv ((fun i_ => match i_ with | 0 => some (.pointer (some ⟨g83, 2, none⟩)) | 1 => some (.int .u64 (uv g_)) | 2 => some (.pointer (some ⟨g83, 3, none⟩)) | 3 => some (.slice A3 xs.length c3) | 4 => some (.pointer (some ⟨g83, 3, none⟩)) | 5 => some (.slice A3 xs.length c3) | 6 => some (.int .i64 (xs.length : Int)) | 7 => some (.int .i64 ((xs.take 186).length : Int)) | 8 => some (.slice A3 ((xs.take 186).length) c3) | _ => none) : Nat → Option Value) bq_ vq_ ∧ cond (bq_ 11) (∃ (g193 : Nat), vq_ 9 = .agg ((nums .u8 ((pgB g_ (rtS (xs.take 186))).map bv))).toArray ∧ vq_ 10 = .pointer (some ⟨g193, 0, none⟩) ∧ St w (fun _ => False) w_ ([blk g193 ((nums .u8 ((pgB g_ (rtS (xs.take 186))).map bv))) 38, blk g83 [.int .i64 1, .int .i64 aa, .int .u64 (uv g_), .slice A3 xs.length c3, .slice A4 kp.length c4] 46, blk D23 (dskC gs24 gm25 v S) 72, blk gs24 (pgs S.stable) 38, mapR gm25 S.cnt S.bad, row kWr rfl 78 v S.pending, row kPg rfl 38 vs R.stable, row Kd.bool rfl 4 vb R.bad, row kWr rfl 87 vp R.pending, blk g35 [vs, vb, vp, .bool R.counted, .int .i64 R.left, .bool R.down] 53])) (cond (bq_ 10) (cond (bq_ 9) (∃ (g193 : Nat), vq_ 9 = .agg ((nums .u8 ((pgB g_ (rtS (xs.take 186))).map bv))).toArray ∧ vq_ 10 = .pointer (some ⟨g193, 0, none⟩) ∧ St w (fun _ => False) w_ ([blk g193 ((nums .u8 zpg)) 38, blk g83 [.int .i64 1, .int .i64 aa, .int .u64 (uv g_), .slice A3 xs.length c3, .slice A4 kp.length c4] 46, blk D23 (dskC gs24 gm25 v S) 72, blk gs24 (pgs S.stable) 38, mapR gm25 S.cnt S.bad, row kWr rfl 78 v S.pending, row kPg rfl 38 vs R.stable, row Kd.bool rfl 4 vb R.bad, row kWr rfl 87 vp R.pending, blk g35 [vs, vb, vp, .bool R.counted, .int .i64 R.left, .bool R.down] 53])) (∃ (g193 : Nat), vq_ 10 = .pointer (some ⟨g193, 0, none⟩) ∧ St w (fun _ => False) w_ ([blk g193 ((nums .u8 zpg)) 38, blk g83 [.int .i64 1, .int .i64 aa, .int .u64 (uv g_), .slice A3 xs.length c3, .slice A4 kp.length c4] 46, blk D23 (dskC gs24 gm25 v S) 72, blk gs24 (pgs S.stable) 38, mapR gm25 S.cnt S.bad, row kWr rfl 78 v S.pending, row kPg rfl 38 vs R.stable, row Kd.bool rfl 4 vb R.bad, row kWr rfl 87 vp R.pending, blk g35 [vs, vb, vp, .bool R.counted, .int .i64 R.left, .bool R.down] 53]))) (cond (bq_ 9) (vq_ 9 = .agg ((nums .u8 ((pgB g_ (rtS (xs.take 186))).map bv))).toArray ∧ St w (fun _ => False) w_ ([blk g83 [.int .i64 1, .int .i64 aa, .int .u64 (uv g_), .slice A3 xs.length c3, .slice A4 kp.length c4] 46, blk D23 (dskC gs24 gm25 v S) 72, blk gs24 (pgs S.stable) 38, mapR gm25 S.cnt S.bad, row kWr rfl 78 v S.pending, row kPg rfl 38 vs R.stable, row Kd.bool rfl 4 vb R.bad, row kWr rfl 87 vp R.pending, blk g35 [vs, vb, vp, .bool R.counted, .int .i64 R.left, .bool R.down] 53])) ((St w (fun _ => False) w_ ([blk g83 [.int .i64 1, .int .i64 aa, .int .u64 (uv g_), .slice A3 xs.length c3, .slice A4 kp.length c4] 46, blk D23 (dskC gs24 gm25 v S) 72, blk gs24 (pgs S.stable) 38, mapR gm25 S.cnt S.bad, row kWr rfl 78 v S.pending, row kPg rfl 38 vs R.stable, row Kd.bool rfl 4 vb R.bad, row kWr rfl 87 vp R.pending, blk g35 [vs, vb, vp, .bool R.counted, .int .i64 R.left, .bool R.down] 53])))))) (by kernel_rfl) rfl rfl (by kernel_rfl) (by kernel_rfl) rfl (by kernel_rfl) (by kernel_rfl) ⟨qv_none, HS.draw⟩ ?_ ?_
      ·clear HS
       intro i_ hi_ bq_ vq_ a_ w_ hG hb_ hon hoff hfr hel hval
       obtain ⟨hV, hE⟩ := hG
       have hi_ := List.mem_range.1 hi_
       obtain ⟨l_, rfl⟩ := hfr
       have hv_ := fun (j t : Nat) (v : Value) (h1 : (j, t) ∈ [(0, 70), (1, 71), (2, 72), (3, 73), (4, 74), (5, 75), (6, 76), (7, 77), (8, 78), (9, 79), (10, 14)]) h2 h3 => (hval (j, t) h1 h3).trans (congrArg some (hV j v h2 h3))
       have hcs : i_ = 0 ∨ i_ = 1 ∨ i_ = 2 ∨ i_ = 3 ∨ i_ = 4 ∨ i_ = 5 ∨ i_ = 6 ∨ i_ = 7 ∨ i_ = 8 ∨ i_ = 9 ∨ i_ = 10 ∨ i_ = 11 := by omega
       rcases hcs with rfl | rfl | rfl | rfl | rfl | rfl | rfl | rfl | rfl | rfl | rfl | rfl
       ·have e8 : evl l_ (.tmp 8) = .pointer (some ⟨g83, 0, none⟩) := evl_of ((hel 8 (by decide)).trans rfl)
        exact ⟨_, rfl, fun K_ hK_ => q_op _ (x_field (j := 2) _ _ rfl e8 Try.underlying46 rfl (by rfl) rfl) (hK_ _ _ ⟨qv_up hV (fun _ h => Option.some.inj h), hE⟩)⟩
       ·rcases hq10 : bq_ 10 with _ | _
        ·have hE0 := hE
         simp only [show bq_ 11 = false from (hoff 11 (by decide)), show bq_ 10 = false from hq10, show bq_ 9 = false from (hoff 9 (by decide)), cond_true, cond_false] at hE0
         have HS := hE0
         have e70 : evl l_ (.tmp 70) = .pointer (some ⟨g83, 2, none⟩) := evl_of (hv_ 0 70 _ (by decide) rfl (hon 0 (by decide)))
         exact ⟨_, rfl, fun K_ hK_ => q_op _ (x_load (.int .u64 (uv g_)) rfl e70 (bkCell (HS.get (.head _)) 2 _ rfl) (by rfl)) (hK_ _ _ ⟨qv_up hV (fun _ h => Option.some.inj h), hE⟩)⟩
        ·have hE0 := hE
         simp only [show bq_ 11 = false from (hoff 11 (by decide)), show bq_ 10 = true from hq10, show bq_ 9 = false from (hoff 9 (by decide)), cond_true, cond_false] at hE0
         obtain ⟨g193, hv10, HS⟩ := hE0
         have e70 : evl l_ (.tmp 70) = .pointer (some ⟨g83, 2, none⟩) := evl_of (hv_ 0 70 _ (by decide) rfl (hon 0 (by decide)))
         exact ⟨_, rfl, fun K_ hK_ => q_op _ (x_load (.int .u64 (uv g_)) rfl e70 (bkCell (HS.get (.tail _ (.head _))) 2 _ rfl) (by rfl)) (hK_ _ _ ⟨qv_up hV (fun _ h => Option.some.inj h), hE⟩)⟩
       ·have e8 : evl l_ (.tmp 8) = .pointer (some ⟨g83, 0, none⟩) := evl_of ((hel 8 (by decide)).trans rfl)
        exact ⟨_, rfl, fun K_ hK_ => q_op _ (x_field (j := 3) _ _ rfl e8 Try.underlying46 rfl (by rfl) rfl) (hK_ _ _ ⟨qv_up hV (fun _ h => Option.some.inj h), hE⟩)⟩
       ·rcases hq10 : bq_ 10 with _ | _
        ·have hE0 := hE
         simp only [show bq_ 11 = false from (hoff 11 (by decide)), show bq_ 10 = false from hq10, show bq_ 9 = false from (hoff 9 (by decide)), cond_true, cond_false] at hE0
         have HS := hE0
         have e72 : evl l_ (.tmp 72) = .pointer (some ⟨g83, 3, none⟩) := evl_of (hv_ 2 72 _ (by decide) rfl (hon 2 (by decide)))
         exact ⟨_, rfl, fun K_ hK_ => q_op _ (x_load (.slice A3 xs.length c3) rfl e72 (bkCell (HS.get (.head _)) 3 _ rfl) (by rfl)) (hK_ _ _ ⟨qv_up hV (fun _ h => Option.some.inj h), hE⟩)⟩
        ·have hE0 := hE
         simp only [show bq_ 11 = false from (hoff 11 (by decide)), show bq_ 10 = true from hq10, show bq_ 9 = false from (hoff 9 (by decide)), cond_true, cond_false] at hE0
         obtain ⟨g193, hv10, HS⟩ := hE0
         have e72 : evl l_ (.tmp 72) = .pointer (some ⟨g83, 3, none⟩) := evl_of (hv_ 2 72 _ (by decide) rfl (hon 2 (by decide)))
         exact ⟨_, rfl, fun K_ hK_ => q_op _ (x_load (.slice A3 xs.length c3) rfl e72 (bkCell (HS.get (.tail _ (.head _))) 3 _ rfl) (by rfl)) (hK_ _ _ ⟨qv_up hV (fun _ h => Option.some.inj h), hE⟩)⟩
       ·have e8 : evl l_ (.tmp 8) = .pointer (some ⟨g83, 0, none⟩) := evl_of ((hel 8 (by decide)).trans rfl)
        exact ⟨_, rfl, fun K_ hK_ => q_op _ (x_field (j := 3) _ _ rfl e8 Try.underlying46 rfl (by rfl) rfl) (hK_ _ _ ⟨qv_up hV (fun _ h => Option.some.inj h), hE⟩)⟩
       ·rcases hq10 : bq_ 10 with _ | _
        ·have hE0 := hE
         simp only [show bq_ 11 = false from (hoff 11 (by decide)), show bq_ 10 = false from hq10, show bq_ 9 = false from (hoff 9 (by decide)), cond_true, cond_false] at hE0
         have HS := hE0
         have e74 : evl l_ (.tmp 74) = .pointer (some ⟨g83, 3, none⟩) := evl_of (hv_ 4 74 _ (by decide) rfl (hon 4 (by decide)))
         exact ⟨_, rfl, fun K_ hK_ => q_op _ (x_load (.slice A3 xs.length c3) rfl e74 (bkCell (HS.get (.head _)) 3 _ rfl) (by rfl)) (hK_ _ _ ⟨qv_up hV (fun _ h => Option.some.inj h), hE⟩)⟩
        ·have hE0 := hE
         simp only [show bq_ 11 = false from (hoff 11 (by decide)), show bq_ 10 = true from hq10, show bq_ 9 = false from (hoff 9 (by decide)), cond_true, cond_false] at hE0
         obtain ⟨g193, hv10, HS⟩ := hE0
         have e74 : evl l_ (.tmp 74) = .pointer (some ⟨g83, 3, none⟩) := evl_of (hv_ 4 74 _ (by decide) rfl (hon 4 (by decide)))
         exact ⟨_, rfl, fun K_ hK_ => q_op _ (x_load (.slice A3 xs.length c3) rfl e74 (bkCell (HS.get (.tail _ (.head _))) 3 _ rfl) (by rfl)) (hK_ _ _ ⟨qv_up hV (fun _ h => Option.some.inj h), hE⟩)⟩
       ·rcases hq10 : bq_ 10 with _ | _
        ·have hE0 := hE
         simp only [show bq_ 11 = false from (hoff 11 (by decide)), show bq_ 10 = false from hq10, show bq_ 9 = false from (hoff 9 (by decide)), cond_true, cond_false] at hE0
         have HS := hE0
         have e75 : evl l_ (.tmp 75) = .slice A3 xs.length c3 := evl_of (hv_ 5 75 _ (by decide) rfl (hon 5 (by decide)))
         exact ⟨_, rfl, fun K_ hK_ => q_op _ (x_len rfl e75 Try.underlying24) (hK_ _ _ ⟨qv_up hV (fun _ h => Option.some.inj h), hE⟩)⟩
        ·have hE0 := hE
         simp only [show bq_ 11 = false from (hoff 11 (by decide)), show bq_ 10 = true from hq10, show bq_ 9 = false from (hoff 9 (by decide)), cond_true, cond_false] at hE0
         obtain ⟨g193, hv10, HS⟩ := hE0
         have e75 : evl l_ (.tmp 75) = .slice A3 xs.length c3 := evl_of (hv_ 5 75 _ (by decide) rfl (hon 5 (by decide)))
         exact ⟨_, rfl, fun K_ hK_ => q_op _ (x_len rfl e75 Try.underlying24) (hK_ _ _ ⟨qv_up hV (fun _ h => Option.some.inj h), hE⟩)⟩
       ·rcases hq10 : bq_ 10 with _ | _
        ·have hE0 := hE
         simp only [show bq_ 11 = false from (hoff 11 (by decide)), show bq_ 10 = false from hq10, show bq_ 9 = false from (hoff 9 (by decide)), cond_true, cond_false] at hE0
         have HS := hE0
         have e76 : evl l_ (.tmp 76) = .int .i64 (xs.length : Int) := evl_of (hv_ 6 76 _ (by decide) rfl (hon 6 (by decide)))
         exact ⟨_, rfl, fun K_ hK_ => q_op _ (x_min (m := (xs.length : Int)) (n := 186) (((xs.take 186).length : Int)) rfl e76 rfl (min186 xs)) (hK_ _ _ ⟨qv_up hV (fun _ h => Option.some.inj h), hE⟩)⟩
        ·have hE0 := hE
         simp only [show bq_ 11 = false from (hoff 11 (by decide)), show bq_ 10 = true from hq10, show bq_ 9 = false from (hoff 9 (by decide)), cond_true, cond_false] at hE0
         obtain ⟨g193, hv10, HS⟩ := hE0
         have e76 : evl l_ (.tmp 76) = .int .i64 (xs.length : Int) := evl_of (hv_ 6 76 _ (by decide) rfl (hon 6 (by decide)))
         exact ⟨_, rfl, fun K_ hK_ => q_op _ (x_min (m := (xs.length : Int)) (n := 186) (((xs.take 186).length : Int)) rfl e76 rfl (min186 xs)) (hK_ _ _ ⟨qv_up hV (fun _ h => Option.some.inj h), hE⟩)⟩
       ·have e73 : evl l_ (.tmp 73) = .slice A3 xs.length c3 := evl_of (hv_ 3 73 _ (by decide) rfl (hon 3 (by decide)))
        have e77 : evl l_ (.tmp 77) = .int .i64 ((xs.take 186).length : Int) := evl_of (hv_ 7 77 _ (by decide) rfl (hon 7 (by decide)))
        exact ⟨_, rfl, fun K_ hK_ => q_op (.slice A3 ((xs.take 186).length) c3) ((x_slice (sz := 1) (L := none) (H := (some (.tmp 77))) (lo := 0) (hi := (xs.take 186).length) A3 rfl e73 Try.underlying24 (by kernel_rfl) rfl ⟨_, _, e77, (by omega), rfl⟩ (by omega) (by omega) (map_add0 A3 c3)).trans rfl) (hK_ _ _ ⟨qv_up hV (fun _ h => Option.some.inj h), hE⟩)⟩
       ·have h71 : (fr l_).tmps[71]? = some (.int .u64 (uv g_)) := hv_ 1 71 _ (by decide) rfl (hon 1 (by decide))
        have h78 : (fr l_).tmps[78]? = some (.slice A3 ((xs.take 186).length) c3) := hv_ 8 78 _ (by decide) rfl (hon 8 (by decide))
        rcases hq10 : bq_ 10 with _ | _
        ·have hE0 := hE
         simp only [show bq_ 11 = false from (hoff 11 (by decide)), show bq_ 10 = false from hq10, show bq_ 9 = false from hb_, cond_true, cond_false] at hE0
         have HS := hE0
         have e71 : evl l_ (.tmp 71) = .int .u64 (uv g_) := evl_of h71
         have e78 : evl l_ (.tmp 78) = .slice A3 ((xs.take 186).length) c3 := evl_of h78
         refine ⟨_, rfl, fun K_ hK_ => wp_of_list rfl ?_⟩
         intro ops_
         refine w_call [.int .u64 (uv g_), .slice A3 ((xs.take 186).length) c3] Try.func20 (by kernel_rfl) (by rfl) (by simp only [List.map_cons, List.map_nil, e71, e78] <;> rfl) ?_
         refine (rtpage_any HS g_ (xs.take 186) (fun w X hX => ⟨rd_takeN (Rd.below hC3 hX.belowOf) _, by omega⟩) (by rw [List.length_take]; omega)).mono ?_
         clear HS
         rintro e w900901 ⟨rfl, HS⟩
         refine ⟨_, rfl, ?_⟩
         refine wpList_nil ?_
         refine norm_put (hK_ (.agg ((nums .u8 ((pgB g_ (rtS (xs.take 186))).map bv))).toArray) _ ⟨qv_up hV (by intro _ h; cases h), ?_⟩)
         show cond (bq_ 11) _ _
         rw [show bq_ 11 = false from (hoff 11 (by decide)), cond_false]
         show cond (bq_ 10) _ _
         rw [show bq_ 10 = false from hq10, cond_false]
         show cond true _ _
         rw [cond_true]
         exact ⟨rfl, (((((((((HS.front 8 rfl).front 8 rfl).front 8 rfl).front 8 rfl).front 8 rfl).front 8 rfl).front 8 rfl).front 8 rfl).front 8 rfl)⟩
        ·have hE0 := hE
         simp only [show bq_ 11 = false from (hoff 11 (by decide)), show bq_ 10 = true from hq10, show bq_ 9 = false from hb_, cond_true, cond_false] at hE0
         obtain ⟨g193, hv10, HS⟩ := hE0
         have e71 : evl l_ (.tmp 71) = .int .u64 (uv g_) := evl_of h71
         have e78 : evl l_ (.tmp 78) = .slice A3 ((xs.take 186).length) c3 := evl_of h78
         refine ⟨_, rfl, fun K_ hK_ => wp_of_list rfl ?_⟩
         intro ops_
         refine w_call [.int .u64 (uv g_), .slice A3 ((xs.take 186).length) c3] Try.func20 (by kernel_rfl) (by rfl) (by simp only [List.map_cons, List.map_nil, e71, e78] <;> rfl) ?_
         refine (rtpage_any HS g_ (xs.take 186) (fun w X hX => ⟨rd_takeN (Rd.below hC3 hX.belowOf) _, by omega⟩) (by rw [List.length_take]; omega)).mono ?_
         clear HS
         rintro e w900901 ⟨rfl, HS⟩
         refine ⟨_, rfl, ?_⟩
         refine wpList_nil ?_
         refine norm_put (hK_ (.agg ((nums .u8 ((pgB g_ (rtS (xs.take 186))).map bv))).toArray) _ ⟨qv_up hV (by intro _ h; cases h), ?_⟩)
         show cond (bq_ 11) _ _
         rw [show bq_ 11 = false from (hoff 11 (by decide)), cond_false]
         show cond (bq_ 10) _ _
         rw [show bq_ 10 = true from hq10, cond_true]
         show cond true _ _
         rw [cond_true]
         exact ⟨g193, rfl, hv10, ((((((((((HS.front 9 rfl).front 9 rfl).front 9 rfl).front 9 rfl).front 9 rfl).front 9 rfl).front 9 rfl).front 9 rfl).front 9 rfl).front 9 rfl)⟩
       ·rcases hq9 : bq_ 9 with _ | _
        ·have hE0 := hE
         simp only [show bq_ 11 = false from (hoff 11 (by decide)), show bq_ 10 = false from hb_, show bq_ 9 = false from hq9, cond_true, cond_false] at hE0
         have HS := hE0
         refine ⟨_, rfl, fun K_ hK_ => wp_of_list rfl ?_⟩
         intro ops_
         refine St.wAlloc HS (cs := ((nums .u8 zpg))) (.agg ((nums .u8 zpg)).toArray) (by kernel_rfl) rfl ?_
         clear HS
         intro g901001 w901002 hg901003 HS
         refine wpList_nil ?_
         refine norm_put (hK_ (.pointer (some ⟨g901001, 0, none⟩)) _ ⟨qv_up hV (by intro _ h; cases h), ?_⟩)
         show cond (bq_ 11) _ _
         rw [show bq_ 11 = false from (hoff 11 (by decide)), cond_false]
         show cond true _ _
         rw [cond_true]
         show cond (bq_ 9) _ _
         rw [show bq_ 9 = false from hq9, cond_false]
         exact ⟨g901001, rfl, ((((((((((HS.front 9 rfl).front 9 rfl).front 9 rfl).front 9 rfl).front 9 rfl).front 9 rfl).front 9 rfl).front 9 rfl).front 9 rfl).front 9 rfl)⟩
        ·have hE0 := hE
         simp only [show bq_ 11 = false from (hoff 11 (by decide)), show bq_ 10 = false from hb_, show bq_ 9 = true from hq9, cond_true, cond_false] at hE0
         obtain ⟨hv9, HS⟩ := hE0
         refine ⟨_, rfl, fun K_ hK_ => wp_of_list rfl ?_⟩
         intro ops_
         refine St.wAlloc HS (cs := ((nums .u8 zpg))) (.agg ((nums .u8 zpg)).toArray) (by kernel_rfl) rfl ?_
         clear HS
         intro g901001 w901002 hg901003 HS
         refine wpList_nil ?_
         refine norm_put (hK_ (.pointer (some ⟨g901001, 0, none⟩)) _ ⟨qv_up hV (by intro _ h; cases h), ?_⟩)
         show cond (bq_ 11) _ _
         rw [show bq_ 11 = false from (hoff 11 (by decide)), cond_false]
         show cond true _ _
         rw [cond_true]
         show cond (bq_ 9) _ _
         rw [show bq_ 9 = true from hq9, cond_true]
         exact ⟨g901001, hv9, rfl, ((((((((((HS.front 9 rfl).front 9 rfl).front 9 rfl).front 9 rfl).front 9 rfl).front 9 rfl).front 9 rfl).front 9 rfl).front 9 rfl).front 9 rfl)⟩
       ·have h14 := hval (10, 14) (by decide) (hon 10 (by decide))
        have h79 := hval (9, 79) (by decide) (hon 9 (by decide))
        have hE0 := hE
        simp only [show bq_ 11 = false from hb_, show bq_ 10 = true from (hon 10 (by decide)), show bq_ 9 = true from (hon 9 (by decide)), cond_true, cond_false] at hE0
        obtain ⟨g193, hv9, hv10, HS⟩ := hE0
        rw [hv10] at h14
        rw [hv9] at h79
        have e14 : evl l_ (.tmp 14) = .pointer (some ⟨g193, 0, none⟩) := evl_of h14
        have e79 : evl l_ (.tmp 79) = .agg ((nums .u8 ((pgB g_ (rtS (xs.take 186))).map bv))).toArray := evl_of h79
        refine ⟨_, rfl, fun K_ hK_ => wp_of_list rfl ?_⟩
        intro ops_
        refine St.stores (cs' := ((nums .u8 ((pgB g_ (rtS (xs.take 186))).map bv)))) HS ((nums .u8 ((pgB g_ (rtS (xs.take 186))).map bv))) 256 e14 e79 (nums_one _ _) (by kernel_rfl) (by simp [nums_length, pB_len g_ (rtS (xs.take 186))]) (by simp [nums_length, pB_len g_ (rtS (xs.take 186)), zlen]) (lay_all _ _ (by simp [nums_length, pB_len g_ (rtS (xs.take 186)), zlen])) ?_
        clear HS
        intro w901101 HS
        refine wpList_nil ?_
        refine norm_none (hK_ undef _ ⟨qv_up hV (by intro _ h; cases h), ?_⟩)
        show cond true _ _
        rw [cond_true]
        exact ⟨g193, hv9, hv10, ((((((((((HS.front 9 rfl).front 9 rfl).front 9 rfl).front 9 rfl).front 9 rfl).front 9 rfl).front 9 rfl).front 9 rfl).front 9 rfl).front 9 rfl)⟩
      intro bq_ vq_ w_ hall hG
      obtain ⟨hV, hE⟩ := hG
      clear HS
      rw [show bq_ 11 = true from hall 11 (by decide)] at hE
      simp only [cond_true] at hE
      obtain ⟨g193, hv9, hv10, HS⟩ := hE
      have hv0 := hV 0 _ rfl (hall 0 (by decide))
      have hv1 := hV 1 _ rfl (hall 1 (by decide))
      have hv2 := hV 2 _ rfl (hall 2 (by decide))
      have hv3 := hV 3 _ rfl (hall 3 (by decide))
      have hv4 := hV 4 _ rfl (hall 4 (by decide))
      have hv5 := hV 5 _ rfl (hall 5 (by decide))
      have hv6 := hV 6 _ rfl (hall 6 (by decide))
      have hv7 := hV 7 _ rfl (hall 7 (by decide))
      have hv8 := hV 8 _ rfl (hall 8 (by decide))
      clear hV hall
      rw [putSel_fr]
      simp only [tells, List.map_cons, List.map_nil, setAll, List.set_cons_succ, List.set_cons_zero, hv0, hv1, hv2, hv3, hv4, hv5, hv6, hv7, hv8, hv9, hv10]
      clear hv0 hv1 hv2 hv3 hv4 hv5 hv6 hv7 hv8 hv9 hv10
      generalize w_ = w901102 at HS ⊢
      refine fr_at (l' := (.int .i64 pages :: .slice (some ad) l0.length c0 :: undef :: undef :: q46.a :: .pointer (some ⟨D23, 0, none⟩) :: .pointer (some ⟨g35, 0, none⟩) :: undef :: .pointer (some ⟨g83, 0, none⟩) :: .int .u64 0 :: .int .u64 0 :: .int .i64 0 :: .int .i64 0 :: q46.g :: .pointer (some ⟨g193, 0, none⟩) :: V8.l q47 (q48.a :: q48.b :: undef :: undef :: undef :: .bool true :: .bool false :: .int .i64 pages :: .bool false :: V8.l qz39 (.slice (some ad) l0.length c0 :: .int .i64 (l0.length : Int) :: .int .i64 (i : Int) :: .bool (decide ((i : Int) < (l0.length : Int))) :: .pointer (some ((ad).add (i * 5))) :: .agg ([.int .i64 1, .int .i64 aa, .int .u64 (uv g_), .slice A3 xs.length c3, .slice A4 kp.length c4] : List Value).toArray :: .pointer (some ⟨g83, 0, none⟩) :: .int .i64 1 :: .bool false :: .bool false :: q49.b :: q49.c :: q49.d :: q49.e :: q49.f :: q49.g :: q49.h :: V8.l q50 (q51.a :: q51.b :: q51.c :: .bool true :: .bool true :: .pointer (some ⟨g83, 2, none⟩) :: .int .u64 (uv g_) :: .pointer (some ⟨g83, 3, none⟩) :: .slice A3 xs.length c3 :: .pointer (some ⟨g83, 3, none⟩) :: .slice A3 xs.length c3 :: .int .i64 (xs.length : Int) :: .int .i64 ((xs.take 186).length : Int) :: .slice A3 ((xs.take 186).length) c3 :: .agg ((nums .u8 ((pgB g_ (rtS (xs.take 186))).map bv))).toArray :: q52.h :: V8.l q53 (V8.l q54 (V8.l q55 (V8.l q56 (V8.l q57 (V8.l q58 (V8.l q59 (V8.l q60 (V8.l q61 (V8.l q62 (V8.l q63 (V8.l q64 (V8.l q65 (q66.a :: q66.b :: q66.c :: q66.d :: q66.e :: q66.f :: U16l5r (U4l5r ([])))))))))))))))))))) rfl ?_
      refine hK189 _ _ ?_
      refine wp_seq_k (fun K901103 hK901104 => ?_)
      refine c_region (fun ops901106 hops901105 => ?_)
      clear hops901105
      refine p_run _ (x_move (.pointer (some ⟨D23, 0, none⟩)) rfl rfl) rfl ?_
      refine p_run _ (x_field (j := 1) _ _ rfl rfl Try.underlying46 rfl (by rfl) rfl) rfl ?_
      refine p_run _ (x_load (.int .i64 aa) rfl rfl (bkCell (HS.get (.tail _ (.head _))) 1 _ rfl) (by rfl)) rfl ?_
      refine p_run _ (x_loads ((nums .u8 ((pgB g_ (rtS (xs.take 186))).map bv))) 256 rfl rfl (bkCells (HS.get (.head _)) 0 _ (whole _)) (by rfl) (by kernel_rfl) (by simp [nums_length, pB_len g_ (rtS (xs.take 186))])) rfl ?_
      refine w_call [.pointer (some ⟨D23, 0, none⟩), .int .i64 aa, .agg ((nums .u8 ((pgB g_ (rtS (xs.take 186))).map bv))).toArray] Try.func14 (by kernel_rfl) (by rfl) rfl ?_
      replace HS := ((((HS.front 5 rfl).front 5 rfl).front 5 rfl).front 5 rfl)
      refine (write_any HS hG.lft (by have := hG.pn; omega) aa ((pgB g_ (rtS (xs.take 186))).map bv) (pB_len _ _)).mono ?_
      clear HS
      rintro e w901108 ⟨v901107, rfl, HS⟩
      have hgd901109 : Dk.good (S.write aa ((pgB g_ (rtS (xs.take 186))).map bv)) (i + 1) := good_write hG aa (pB_len _ _)
      refine ⟨_, rfl, ?_⟩
      refine p_run _ (x_assign (.int .i64 (S.writeE aa)) rfl rfl) rfl ?_
      refine wpList_nil ?_
      refine fr_at (l' := (.int .i64 pages :: .slice (some ad) l0.length c0 :: undef :: undef :: q46.a :: .pointer (some ⟨D23, 0, none⟩) :: .pointer (some ⟨g35, 0, none⟩) :: undef :: .pointer (some ⟨g83, 0, none⟩) :: .int .u64 0 :: .int .u64 0 :: .int .i64 (S.writeE aa) :: .int .i64 0 :: q46.g :: .pointer (some ⟨g193, 0, none⟩) :: V8.l q47 (q48.a :: q48.b :: undef :: undef :: undef :: .bool true :: .bool false :: .int .i64 pages :: .bool false :: V8.l qz39 (.slice (some ad) l0.length c0 :: .int .i64 (l0.length : Int) :: .int .i64 (i : Int) :: .bool (decide ((i : Int) < (l0.length : Int))) :: .pointer (some ((ad).add (i * 5))) :: .agg ([.int .i64 1, .int .i64 aa, .int .u64 (uv g_), .slice A3 xs.length c3, .slice A4 kp.length c4] : List Value).toArray :: .pointer (some ⟨g83, 0, none⟩) :: .int .i64 1 :: .bool false :: .bool false :: q49.b :: q49.c :: q49.d :: q49.e :: q49.f :: q49.g :: q49.h :: V8.l q50 (q51.a :: q51.b :: q51.c :: .bool true :: .bool true :: .pointer (some ⟨g83, 2, none⟩) :: .int .u64 (uv g_) :: .pointer (some ⟨g83, 3, none⟩) :: .slice A3 xs.length c3 :: .pointer (some ⟨g83, 3, none⟩) :: .slice A3 xs.length c3 :: .int .i64 (xs.length : Int) :: .int .i64 ((xs.take 186).length : Int) :: .slice A3 ((xs.take 186).length) c3 :: .agg ((nums .u8 ((pgB g_ (rtS (xs.take 186))).map bv))).toArray :: .pointer (some ⟨D23, 0, none⟩) :: .pointer (some ⟨g83, 1, none⟩) :: .int .i64 aa :: .agg ((nums .u8 ((pgB g_ (rtS (xs.take 186))).map bv))).toArray :: .int .i64 (S.writeE aa) :: q53.e :: q53.f :: q53.g :: q53.h :: V8.l q54 (V8.l q55 (V8.l q56 (V8.l q57 (V8.l q58 (V8.l q59 (V8.l q60 (V8.l q61 (V8.l q62 (V8.l q63 (V8.l q64 (V8.l q65 (q66.a :: q66.b :: q66.c :: q66.d :: q66.e :: q66.f :: U16l5r (U4l5r ([]))))))))))))))))))) rfl ?_
      refine hK901104 _ _ ?_
      refine c_region (fun ops901111 hops901110 => ?_)
      clear hops901110
      refine p_run _ (x_loads [vs, vb, vp, .bool R.counted, .int .i64 R.left, .bool R.down] 6 rfl rfl (bkCells (HS.get (.tail _ (.tail _ (.tail _ (.tail _ (.tail _ (.tail _ (.tail _ (.tail _ (.tail _ (.head _))))))))))) 0 _ rfl) (by rfl) (by kernel_rfl) rfl) rfl ?_
      refine p_run _ (x_field (j := 1) _ _ rfl rfl Try.underlying46 rfl (by rfl) rfl) rfl ?_
      refine p_run _ (x_load (.int .i64 aa) rfl rfl (bkCell (HS.get (.tail _ (.tail _ (.tail _ (.tail _ (.tail _ (.head _))))))) 1 _ rfl) (by rfl)) rfl ?_
      refine p_run _ (x_loads ((nums .u8 ((pgB g_ (rtS (xs.take 186))).map bv))) 256 rfl rfl (bkCells (HS.get (.tail _ (.tail _ (.tail _ (.tail _ (.head _)))))) 0 _ (whole _)) (by rfl) (by kernel_rfl) (by simp [nums_length, pB_len g_ (rtS (xs.take 186))])) rfl ?_
      refine w_call [rkV vs vb vp R, .int .i64 aa, .agg ((nums .u8 ((pgB g_ (rtS (xs.take 186))).map bv))).toArray] Try.func21 (by kernel_rfl) (by rfl) rfl ?_
      replace HS := (((HS.front 8 rfl).front 8 rfl).front 8 rfl)
      refine (rkPut_any HS hRO.hl (Nat.le_trans hRO.hpn (by omega)) aa ((pgB g_ (rtS (xs.take 186))).map bv) (pB_len _ _)).mono ?_
      clear HS
      rintro e w901113 ⟨v901112, he_, HS⟩
      rw [(rd_write hRD aa ((pgB g_ (rtS (xs.take 186))).map bv)).2] at he_
      subst he_
      refine ⟨_, rfl, ?_⟩
      refine p_run _ (x_move (.tuple [rkV vs vb v901112 (R.put aa ((pgB g_ (rtS (xs.take 186))).map bv)), .int .i64 (S.writeE aa)].toArray) rfl rfl) rfl ?_
      refine p_run _ (x_extract (vs := [rkV vs vb v901112 (R.put aa ((pgB g_ (rtS (xs.take 186))).map bv)), .int .i64 (S.writeE aa)]) 0 (rkV vs vb v901112 (R.put aa ((pgB g_ (rtS (xs.take 186))).map bv))) rfl rfl rfl) rfl ?_
      refine p_run (l' := (.int .i64 pages :: .slice (some ad) l0.length c0 :: undef :: undef :: q46.a :: .pointer (some ⟨D23, 0, none⟩) :: .pointer (some ⟨g35, 0, none⟩) :: undef :: .pointer (some ⟨g83, 0, none⟩) :: .int .u64 0 :: .int .u64 0 :: .int .i64 (S.writeE aa) :: .int .i64 0 :: q46.g :: .pointer (some ⟨g193, 0, none⟩) :: V8.l q47 (q48.a :: q48.b :: undef :: undef :: undef :: .bool true :: .bool false :: .int .i64 pages :: .bool false :: V8.l qz39 (.slice (some ad) l0.length c0 :: .int .i64 (l0.length : Int) :: .int .i64 (i : Int) :: .bool (decide ((i : Int) < (l0.length : Int))) :: .pointer (some ((ad).add (i * 5))) :: .agg ([.int .i64 1, .int .i64 aa, .int .u64 (uv g_), .slice A3 xs.length c3, .slice A4 kp.length c4] : List Value).toArray :: .pointer (some ⟨g83, 0, none⟩) :: .int .i64 1 :: .bool false :: .bool false :: q49.b :: q49.c :: q49.d :: q49.e :: q49.f :: q49.g :: q49.h :: V8.l q50 (q51.a :: q51.b :: q51.c :: .bool true :: .bool true :: .pointer (some ⟨g83, 2, none⟩) :: .int .u64 (uv g_) :: .pointer (some ⟨g83, 3, none⟩) :: .slice A3 xs.length c3 :: .pointer (some ⟨g83, 3, none⟩) :: .slice A3 xs.length c3 :: .int .i64 (xs.length : Int) :: .int .i64 ((xs.take 186).length : Int) :: .slice A3 ((xs.take 186).length) c3 :: .agg ((nums .u8 ((pgB g_ (rtS (xs.take 186))).map bv))).toArray :: .pointer (some ⟨D23, 0, none⟩) :: .pointer (some ⟨g83, 1, none⟩) :: .int .i64 aa :: .agg ((nums .u8 ((pgB g_ (rtS (xs.take 186))).map bv))).toArray :: .int .i64 (S.writeE aa) :: .tuple [rkV vs vb v901112 (R.put aa ((pgB g_ (rtS (xs.take 186))).map bv)), .int .i64 (S.writeE aa)].toArray :: rkV vs vb vp R :: .pointer (some ⟨g83, 1, none⟩) :: .int .i64 aa :: .agg ((nums .u8 ((pgB g_ (rtS (xs.take 186))).map bv))).toArray :: .tuple [rkV vs vb v901112 (R.put aa ((pgB g_ (rtS (xs.take 186))).map bv)), .int .i64 (S.writeE aa)].toArray :: rkV vs vb v901112 (R.put aa ((pgB g_ (rtS (xs.take 186))).map bv)) :: .int .i64 (S.writeE aa) :: q54.e :: q54.f :: q54.g :: q54.h :: V8.l q55 (V8.l q56 (V8.l q57 (V8.l q58 (V8.l q59 (V8.l q60 (V8.l q61 (V8.l q62 (V8.l q63 (V8.l q64 (V8.l q65 (q66.a :: q66.b :: q66.c :: q66.d :: q66.e :: q66.f :: U16l5r (U4l5r ([])))))))))))))))))) _ (x_extract (vs := [rkV vs vb v901112 (R.put aa ((pgB g_ (rtS (xs.take 186))).map bv)), .int .i64 (S.writeE aa)]) 1 (.int .i64 (S.writeE aa)) rfl rfl rfl) rfl ?_
      refine St.stores (cs' := [vs, vb, v901112, .bool ((R.put aa ((pgB g_ (rtS (xs.take 186))).map bv)).counted), .int .i64 ((R.put aa ((pgB g_ (rtS (xs.take 186))).map bv)).left), .bool ((R.put aa ((pgB g_ (rtS (xs.take 186))).map bv)).down)]) (HS.front 9 rfl) [vs, vb, v901112, .bool ((R.put aa ((pgB g_ (rtS (xs.take 186))).map bv)).counted), .int .i64 ((R.put aa ((pgB g_ (rtS (xs.take 186))).map bv)).left), .bool ((R.put aa ((pgB g_ (rtS (xs.take 186))).map bv)).down)] 6 rfl rfl (all1 (row_one (HS.get (.head _))) (all1 (row_one (HS.get (.tail _ (.head _)))) (all1 (row_one (HS.get (.tail _ (.tail _ (.head _))))) (all1 rfl (all1 rfl (all1 rfl rfl)))))) (by kernel_rfl) rfl (by simp) rfl ?_
      clear HS
      intro w901114 HS
      refine p_run _ (x_assign (.int .i64 (S.writeE aa)) rfl rfl) rfl ?_
      refine wpList_nil ?_
      refine fr_at (l' := (.int .i64 pages :: .slice (some ad) l0.length c0 :: undef :: undef :: q46.a :: .pointer (some ⟨D23, 0, none⟩) :: .pointer (some ⟨g35, 0, none⟩) :: undef :: .pointer (some ⟨g83, 0, none⟩) :: .int .u64 0 :: .int .u64 0 :: .int .i64 (S.writeE aa) :: .int .i64 (S.writeE aa) :: q46.g :: .pointer (some ⟨g193, 0, none⟩) :: V8.l q47 (q48.a :: q48.b :: undef :: undef :: undef :: .bool true :: .bool false :: .int .i64 pages :: .bool false :: V8.l qz39 (.slice (some ad) l0.length c0 :: .int .i64 (l0.length : Int) :: .int .i64 (i : Int) :: .bool (decide ((i : Int) < (l0.length : Int))) :: .pointer (some ((ad).add (i * 5))) :: .agg ([.int .i64 1, .int .i64 aa, .int .u64 (uv g_), .slice A3 xs.length c3, .slice A4 kp.length c4] : List Value).toArray :: .pointer (some ⟨g83, 0, none⟩) :: .int .i64 1 :: .bool false :: .bool false :: q49.b :: q49.c :: q49.d :: q49.e :: q49.f :: q49.g :: q49.h :: V8.l q50 (q51.a :: q51.b :: q51.c :: .bool true :: .bool true :: .pointer (some ⟨g83, 2, none⟩) :: .int .u64 (uv g_) :: .pointer (some ⟨g83, 3, none⟩) :: .slice A3 xs.length c3 :: .pointer (some ⟨g83, 3, none⟩) :: .slice A3 xs.length c3 :: .int .i64 (xs.length : Int) :: .int .i64 ((xs.take 186).length : Int) :: .slice A3 ((xs.take 186).length) c3 :: .agg ((nums .u8 ((pgB g_ (rtS (xs.take 186))).map bv))).toArray :: .pointer (some ⟨D23, 0, none⟩) :: .pointer (some ⟨g83, 1, none⟩) :: .int .i64 aa :: .agg ((nums .u8 ((pgB g_ (rtS (xs.take 186))).map bv))).toArray :: .int .i64 (S.writeE aa) :: .tuple [rkV vs vb v901112 (R.put aa ((pgB g_ (rtS (xs.take 186))).map bv)), .int .i64 (S.writeE aa)].toArray :: rkV vs vb vp R :: .pointer (some ⟨g83, 1, none⟩) :: .int .i64 aa :: .agg ((nums .u8 ((pgB g_ (rtS (xs.take 186))).map bv))).toArray :: .tuple [rkV vs vb v901112 (R.put aa ((pgB g_ (rtS (xs.take 186))).map bv)), .int .i64 (S.writeE aa)].toArray :: rkV vs vb v901112 (R.put aa ((pgB g_ (rtS (xs.take 186))).map bv)) :: .int .i64 (S.writeE aa) :: q54.e :: q54.f :: q54.g :: q54.h :: V8.l q55 (V8.l q56 (V8.l q57 (V8.l q58 (V8.l q59 (V8.l q60 (V8.l q61 (V8.l q62 (V8.l q63 (V8.l q64 (V8.l q65 (q66.a :: q66.b :: q66.c :: q66.d :: q66.e :: q66.f :: U16l5r (U4l5r ([])))))))))))))))))) rfl ?_
      exact hT97 (S.write aa ((pgB g_ (rtS (xs.take 186))).map bv)) (R.put aa ((pgB g_ (rtS (xs.take 186))).map bv)) v901107 vs vb v901112 0 (S.writeE aa) ⟨q46.g, .pointer (some ⟨g193, 0, none⟩), .pointer (some ⟨g83, 0, none⟩), .int .i64 1, .bool false, .bool false, q49.b, q49.c⟩ ⟨q49.d, q49.e, q49.f, q49.g, q49.h, q50.a, q50.b, q50.c⟩ ⟨q50.d, q50.e, q50.f, q50.g, q50.h, q51.a, q51.b, q51.c⟩ ⟨.bool true, .bool true, .pointer (some ⟨g83, 2, none⟩), .int .u64 (uv g_), .pointer (some ⟨g83, 3, none⟩), .slice A3 xs.length c3, .pointer (some ⟨g83, 3, none⟩), .slice A3 xs.length c3⟩ ⟨.int .i64 (xs.length : Int), .int .i64 ((xs.take 186).length : Int), .slice A3 ((xs.take 186).length) c3, .agg ((nums .u8 ((pgB g_ (rtS (xs.take 186))).map bv))).toArray, .pointer (some ⟨D23, 0, none⟩), .pointer (some ⟨g83, 1, none⟩), .int .i64 aa, .agg ((nums .u8 ((pgB g_ (rtS (xs.take 186))).map bv))).toArray⟩ ⟨.int .i64 (S.writeE aa), .tuple [rkV vs vb v901112 (R.put aa ((pgB g_ (rtS (xs.take 186))).map bv)), .int .i64 (S.writeE aa)].toArray, rkV vs vb vp R, .pointer (some ⟨g83, 1, none⟩), .int .i64 aa, .agg ((nums .u8 ((pgB g_ (rtS (xs.take 186))).map bv))).toArray, .tuple [rkV vs vb v901112 (R.put aa ((pgB g_ (rtS (xs.take 186))).map bv)), .int .i64 (S.writeE aa)].toArray, rkV vs vb v901112 (R.put aa ((pgB g_ (rtS (xs.take 186))).map bv))⟩ ⟨.int .i64 (S.writeE aa), q54.e, q54.f, q54.g, q54.h, q55.a, q55.b, q55.c⟩ ⟨q55.d, q55.e, q55.f, q55.g, q55.h, q56.a, q56.b, q56.c⟩ ⟨q56.d, q56.e, q56.f, q56.g, q56.h, q57.a, q57.b, q57.c⟩ ⟨q57.d, q57.e, q57.f, q57.g, q57.h, q58.a, q58.b, q58.c⟩ ⟨q58.d, q58.e, q58.f, q58.g, q58.h, q59.a, q59.b, q59.c⟩ ⟨q59.d, undef, undef, undef, undef, undef, undef, undef⟩ _ ((((((((((HS.front 8 rfl).drop.front 8 rfl).front 1 rfl).front 4 rfl).front 4 rfl).front 4 rfl).front 8 rfl).front 8 rfl).front 8 rfl).front 8 rfl) ⟨(rd_write hRD _ _).1, good_write hG _ (pB_len _ _), by_write hBY _ ⟨_, pgB_len _ _, rfl⟩⟩
     ·refine c_region (fun ops901116 hops901115 => ?_)
      clear hops901115
      refine p_run _ (x_field (j := 0) _ _ rfl rfl Try.underlying46 rfl (by rfl) rfl) rfl ?_
      refine p_run _ (x_load (.int .i64 2) rfl rfl (bkCell (HS.get (.head _)) 0 _ rfl) (by rfl)) rfl ?_
      refine wpList_nil ?_
      refine hK145 _ _ ?_
      refine wp_block ?_
      refine wp_seq_k (fun K901117 hK901118 => ?_)
      refine c_region (fun ops901120 hops901119 => ?_)
      clear hops901119
      refine p_run _ (x_cmp (k := .i64) (m := 2) (n := 0) .eql false rfl rfl rfl (by decide) rfl) rfl ?_
      refine p_run _ (x_assign (.bool false) rfl rfl) rfl ?_
      refine wpList_nil ?_
      refine hK901118 _ _ ?_
      refine c_false rfl ?_
      refine wp_seq_k (fun K901121 hK901122 => ?_)
      refine c_region (fun ops901124 hops901123 => ?_)
      clear hops901123
      refine p_run _ (x_cmp (k := .i64) (m := 2) (n := 1) .eql false rfl rfl rfl (by decide) rfl) rfl ?_
      refine p_run _ (x_assign (.bool false) rfl rfl) rfl ?_
      refine wpList_nil ?_
      refine fr_at (l' := (.int .i64 pages :: .slice (some ad) l0.length c0 :: undef :: undef :: q46.a :: .pointer (some ⟨D23, 0, none⟩) :: .pointer (some ⟨g35, 0, none⟩) :: undef :: .pointer (some ⟨g83, 0, none⟩) :: .int .u64 0 :: .int .u64 0 :: .int .i64 0 :: .int .i64 0 :: q46.g :: q46.h :: V8.l q47 (q48.a :: q48.b :: undef :: undef :: undef :: .bool true :: .bool false :: .int .i64 pages :: .bool false :: V8.l qz39 (.slice (some ad) l0.length c0 :: .int .i64 (l0.length : Int) :: .int .i64 (i : Int) :: .bool (decide ((i : Int) < (l0.length : Int))) :: .pointer (some ((ad).add (i * 5))) :: .agg ([.int .i64 2, .int .i64 aa, .int .u64 (uv g_), .slice A3 xs.length c3, .slice A4 kp.length c4] : List Value).toArray :: .pointer (some ⟨g83, 0, none⟩) :: .int .i64 2 :: .bool false :: .bool false :: q49.b :: q49.c :: q49.d :: q49.e :: q49.f :: q49.g :: q49.h :: V8.l q50 (q51.a :: q51.b :: q51.c :: .bool false :: .bool false :: q51.f :: q51.g :: q51.h :: V8.l q52 (V8.l q53 (V8.l q54 (V8.l q55 (V8.l q56 (V8.l q57 (V8.l q58 (V8.l q59 (V8.l q60 (V8.l q61 (V8.l q62 (V8.l q63 (V8.l q64 (V8.l q65 (q66.a :: q66.b :: q66.c :: q66.d :: q66.e :: q66.f :: U16l5r (U4l5r ([]))))))))))))))))))))) rfl ?_
      refine hK901122 _ _ ?_
      refine c_false rfl ?_
      refine wp_seq_k (fun K901125 hK901126 => ?_)
      refine c_region (fun ops901128 hops901127 => ?_)
      clear hops901127
      refine p_run _ (x_cmp (k := .i64) (m := 2) (n := 2) .eql true rfl rfl rfl (by decide) rfl) rfl ?_
      refine p_run _ (x_assign (.bool true) rfl rfl) rfl ?_
      refine wpList_nil ?_
      refine hK901126 _ _ ?_
      refine c_true rfl ?_
      refine wp_seq_k (fun K901129 hK901130 => ?_)
      refine c_region (fun ops901132 hops901131 => ?_)
      clear hops901131
      refine p_run _ (x_move (.pointer (some ⟨D23, 0, none⟩)) rfl rfl) rfl ?_
      refine p_run _ (x_field (j := 1) _ _ rfl rfl Try.underlying46 rfl (by rfl) rfl) rfl ?_
      refine p_run _ (x_load (.int .i64 aa) rfl rfl (bkCell (HS.get (.head _)) 1 _ rfl) (by rfl)) rfl ?_
      refine w_call [.pointer (some ⟨D23, 0, none⟩), .int .i64 aa] Try.func16 (by kernel_rfl) (by rfl) rfl ?_
      replace HS := ((((HS.front 4 rfl).front 4 rfl).front 4 rfl).front 4 rfl)
      refine (cut_any HS aa).mono ?_
      clear HS
      rintro e w901133 ⟨rfl, HS⟩
      have hgd901134 : Dk.good (S.cut aa) (i) := good_cut hG aa (by omega)
      refine ⟨_, rfl, ?_⟩
      refine wpList_nil ?_
      refine fr_at (l' := (.int .i64 pages :: .slice (some ad) l0.length c0 :: undef :: undef :: q46.a :: .pointer (some ⟨D23, 0, none⟩) :: .pointer (some ⟨g35, 0, none⟩) :: undef :: .pointer (some ⟨g83, 0, none⟩) :: .int .u64 0 :: .int .u64 0 :: .int .i64 0 :: .int .i64 0 :: q46.g :: q46.h :: V8.l q47 (q48.a :: q48.b :: undef :: undef :: undef :: .bool true :: .bool false :: .int .i64 pages :: .bool false :: V8.l qz39 (.slice (some ad) l0.length c0 :: .int .i64 (l0.length : Int) :: .int .i64 (i : Int) :: .bool (decide ((i : Int) < (l0.length : Int))) :: .pointer (some ((ad).add (i * 5))) :: .agg ([.int .i64 2, .int .i64 aa, .int .u64 (uv g_), .slice A3 xs.length c3, .slice A4 kp.length c4] : List Value).toArray :: .pointer (some ⟨g83, 0, none⟩) :: .int .i64 2 :: .bool false :: .bool false :: q49.b :: q49.c :: q49.d :: q49.e :: q49.f :: q49.g :: q49.h :: V8.l q50 (q51.a :: q51.b :: q51.c :: .bool false :: .bool false :: q51.f :: q51.g :: q51.h :: V8.l q52 (V8.l q53 (q54.a :: q54.b :: q54.c :: q54.d :: .bool true :: .bool true :: .pointer (some ⟨D23, 0, none⟩) :: .pointer (some ⟨g83, 1, none⟩) :: .int .i64 aa :: .tuple [].toArray :: q55.c :: q55.d :: q55.e :: q55.f :: q55.g :: q55.h :: V8.l q56 (V8.l q57 (V8.l q58 (V8.l q59 (V8.l q60 (V8.l q61 (V8.l q62 (V8.l q63 (V8.l q64 (V8.l q65 (q66.a :: q66.b :: q66.c :: q66.d :: q66.e :: q66.f :: U16l5r (U4l5r ([]))))))))))))))))))) rfl ?_
      refine hK901130 _ _ ?_
      refine c_region (fun ops901136 hops901135 => ?_)
      clear hops901135
      refine p_run _ (x_loads [vs, vb, vp, .bool R.counted, .int .i64 R.left, .bool R.down] 6 rfl rfl (bkCells (HS.get (.tail _ (.tail _ (.tail _ (.tail _ (.tail _ (.tail _ (.tail _ (.tail _ (.head _)))))))))) 0 _ rfl) (by rfl) (by kernel_rfl) rfl) rfl ?_
      refine p_run _ (x_field (j := 1) _ _ rfl rfl Try.underlying46 rfl (by rfl) rfl) rfl ?_
      refine p_run _ (x_load (.int .i64 aa) rfl rfl (bkCell (HS.get (.tail _ (.tail _ (.tail _ (.tail _ (.head _)))))) 1 _ rfl) (by rfl)) rfl ?_
      refine w_call [rkV vs vb vp R, .int .i64 aa] Try.func22 (by kernel_rfl) (by rfl) rfl ?_
      replace HS := (((HS.front 7 rfl).front 7 rfl).front 7 rfl)
      refine (rkCut_any HS aa).mono ?_
      clear HS
      rintro e w901137 ⟨rfl, HS⟩
      refine ⟨_, rfl, ?_⟩
      refine St.stores (cs' := [vs, vb, vp, .bool ((R.cut aa).counted), .int .i64 ((R.cut aa).left), .bool ((R.cut aa).down)]) (HS.front 8 rfl) [vs, vb, vp, .bool ((R.cut aa).counted), .int .i64 ((R.cut aa).left), .bool ((R.cut aa).down)] 6 rfl rfl (all1 (row_one (HS.get (.head _))) (all1 (row_one (HS.get (.tail _ (.head _)))) (all1 (row_one (HS.get (.tail _ (.tail _ (.head _))))) (all1 rfl (all1 rfl (all1 rfl rfl)))))) (by kernel_rfl) rfl (by simp) rfl ?_
      clear HS
      intro w901138 HS
      refine wpList_nil ?_
      refine fr_at (l' := (.int .i64 pages :: .slice (some ad) l0.length c0 :: undef :: undef :: q46.a :: .pointer (some ⟨D23, 0, none⟩) :: .pointer (some ⟨g35, 0, none⟩) :: undef :: .pointer (some ⟨g83, 0, none⟩) :: .int .u64 0 :: .int .u64 0 :: .int .i64 0 :: .int .i64 0 :: q46.g :: q46.h :: V8.l q47 (q48.a :: q48.b :: undef :: undef :: undef :: .bool true :: .bool false :: .int .i64 pages :: .bool false :: V8.l qz39 (.slice (some ad) l0.length c0 :: .int .i64 (l0.length : Int) :: .int .i64 (i : Int) :: .bool (decide ((i : Int) < (l0.length : Int))) :: .pointer (some ((ad).add (i * 5))) :: .agg ([.int .i64 2, .int .i64 aa, .int .u64 (uv g_), .slice A3 xs.length c3, .slice A4 kp.length c4] : List Value).toArray :: .pointer (some ⟨g83, 0, none⟩) :: .int .i64 2 :: .bool false :: .bool false :: q49.b :: q49.c :: q49.d :: q49.e :: q49.f :: q49.g :: q49.h :: V8.l q50 (q51.a :: q51.b :: q51.c :: .bool false :: .bool false :: q51.f :: q51.g :: q51.h :: V8.l q52 (V8.l q53 (q54.a :: q54.b :: q54.c :: q54.d :: .bool true :: .bool true :: .pointer (some ⟨D23, 0, none⟩) :: .pointer (some ⟨g83, 1, none⟩) :: .int .i64 aa :: .tuple [].toArray :: rkV vs vb vp R :: .pointer (some ⟨g83, 1, none⟩) :: .int .i64 aa :: rkV vs vb vp (R.cut aa) :: q55.g :: q55.h :: V8.l q56 (V8.l q57 (V8.l q58 (V8.l q59 (V8.l q60 (V8.l q61 (V8.l q62 (V8.l q63 (V8.l q64 (V8.l q65 (q66.a :: q66.b :: q66.c :: q66.d :: q66.e :: q66.f :: U16l5r (U4l5r ([]))))))))))))))))))) rfl ?_
      exact hT97 (S.cut aa) (R.cut aa) v vs vb vp 0 0 ⟨q46.g, q46.h, .pointer (some ⟨g83, 0, none⟩), .int .i64 2, .bool false, .bool false, q49.b, q49.c⟩ ⟨q49.d, q49.e, q49.f, q49.g, q49.h, q50.a, q50.b, q50.c⟩ ⟨q50.d, q50.e, q50.f, q50.g, q50.h, q51.a, q51.b, q51.c⟩ ⟨.bool false, .bool false, q51.f, q51.g, q51.h, q52.a, q52.b, q52.c⟩ ⟨q52.d, q52.e, q52.f, q52.g, q52.h, q53.a, q53.b, q53.c⟩ ⟨q53.d, q53.e, q53.f, q53.g, q53.h, q54.a, q54.b, q54.c⟩ ⟨q54.d, .bool true, .bool true, .pointer (some ⟨D23, 0, none⟩), .pointer (some ⟨g83, 1, none⟩), .int .i64 aa, .tuple [].toArray, rkV vs vb vp R⟩ ⟨.pointer (some ⟨g83, 1, none⟩), .int .i64 aa, rkV vs vb vp (R.cut aa), q55.g, q55.h, q56.a, q56.b, q56.c⟩ ⟨q56.d, q56.e, q56.f, q56.g, q56.h, q57.a, q57.b, q57.c⟩ ⟨q57.d, q57.e, q57.f, q57.g, q57.h, q58.a, q58.b, q58.c⟩ ⟨q58.d, q58.e, q58.f, q58.g, q58.h, q59.a, q59.b, q59.c⟩ ⟨q59.d, undef, undef, undef, undef, undef, undef, undef⟩ _ (((((((((HS.front 8 rfl).front 1 rfl).front 4 rfl).front 4 rfl).front 4 rfl).front 8 rfl).front 8 rfl).front 8 rfl).front 8 rfl) ⟨rd_cut hRD _, (good_cut hG _ (by omega)).mono (Nat.le_succ _), by_cut hBY _⟩
     ·refine c_region (fun ops901140 hops901139 => ?_)
      clear hops901139
      refine p_run _ (x_field (j := 0) _ _ rfl rfl Try.underlying46 rfl (by rfl) rfl) rfl ?_
      refine p_run _ (x_load (.int .i64 3) rfl rfl (bkCell (HS.get (.head _)) 0 _ rfl) (by rfl)) rfl ?_
      refine wpList_nil ?_
      refine hK145 _ _ ?_
      refine wp_block ?_
      refine wp_seq_k (fun K901141 hK901142 => ?_)
      refine c_region (fun ops901144 hops901143 => ?_)
      clear hops901143
      refine p_run _ (x_cmp (k := .i64) (m := 3) (n := 0) .eql false rfl rfl rfl (by decide) rfl) rfl ?_
      refine p_run _ (x_assign (.bool false) rfl rfl) rfl ?_
      refine wpList_nil ?_
      refine hK901142 _ _ ?_
      refine c_false rfl ?_
      refine wp_seq_k (fun K901145 hK901146 => ?_)
      refine c_region (fun ops901148 hops901147 => ?_)
      clear hops901147
      refine p_run _ (x_cmp (k := .i64) (m := 3) (n := 1) .eql false rfl rfl rfl (by decide) rfl) rfl ?_
      refine p_run _ (x_assign (.bool false) rfl rfl) rfl ?_
      refine wpList_nil ?_
      refine fr_at (l' := (.int .i64 pages :: .slice (some ad) l0.length c0 :: undef :: undef :: q46.a :: .pointer (some ⟨D23, 0, none⟩) :: .pointer (some ⟨g35, 0, none⟩) :: undef :: .pointer (some ⟨g83, 0, none⟩) :: .int .u64 0 :: .int .u64 0 :: .int .i64 0 :: .int .i64 0 :: q46.g :: q46.h :: V8.l q47 (q48.a :: q48.b :: undef :: undef :: undef :: .bool true :: .bool false :: .int .i64 pages :: .bool false :: V8.l qz39 (.slice (some ad) l0.length c0 :: .int .i64 (l0.length : Int) :: .int .i64 (i : Int) :: .bool (decide ((i : Int) < (l0.length : Int))) :: .pointer (some ((ad).add (i * 5))) :: .agg ([.int .i64 3, .int .i64 aa, .int .u64 (uv g_), .slice A3 xs.length c3, .slice A4 kp.length c4] : List Value).toArray :: .pointer (some ⟨g83, 0, none⟩) :: .int .i64 3 :: .bool false :: .bool false :: q49.b :: q49.c :: q49.d :: q49.e :: q49.f :: q49.g :: q49.h :: V8.l q50 (q51.a :: q51.b :: q51.c :: .bool false :: .bool false :: q51.f :: q51.g :: q51.h :: V8.l q52 (V8.l q53 (V8.l q54 (V8.l q55 (V8.l q56 (V8.l q57 (V8.l q58 (V8.l q59 (V8.l q60 (V8.l q61 (V8.l q62 (V8.l q63 (V8.l q64 (V8.l q65 (q66.a :: q66.b :: q66.c :: q66.d :: q66.e :: q66.f :: U16l5r (U4l5r ([]))))))))))))))))))))) rfl ?_
      refine hK901146 _ _ ?_
      refine c_false rfl ?_
      refine wp_seq_k (fun K901149 hK901150 => ?_)
      refine c_region (fun ops901152 hops901151 => ?_)
      clear hops901151
      refine p_run _ (x_cmp (k := .i64) (m := 3) (n := 2) .eql false rfl rfl rfl (by decide) rfl) rfl ?_
      refine p_run _ (x_assign (.bool false) rfl rfl) rfl ?_
      refine wpList_nil ?_
      refine hK901150 _ _ ?_
      refine c_false rfl ?_
      refine wp_seq_k (fun K901153 hK901154 => ?_)
      refine c_region (fun ops901156 hops901155 => ?_)
      clear hops901155
      refine p_run _ (x_cmp (k := .i64) (m := 3) (n := 3) .eql true rfl rfl rfl (by decide) rfl) rfl ?_
      refine p_run _ (x_assign (.bool true) rfl rfl) rfl ?_
      refine wpList_nil ?_
      refine hK901154 _ _ ?_
      refine c_true rfl ?_
      refine wp_seq_k (fun K901157 hK901158 => ?_)
      refine c_region (fun ops901160 hops901159 => ?_)
      clear hops901159
      refine p_run _ (x_move (.pointer (some ⟨D23, 0, none⟩)) rfl rfl) rfl ?_
      refine p_run _ (x_field (j := 4) _ _ rfl rfl Try.underlying46 rfl (by rfl) rfl) rfl ?_
      refine p_run _ (x_load (.slice A4 kp.length c4) rfl rfl (bkCell (HS.get (.head _)) 4 _ rfl) (by rfl)) rfl ?_
      refine w_call [.pointer (some ⟨D23, 0, none⟩), .slice A4 kp.length c4] Try.func17 (by kernel_rfl) (by rfl) rfl ?_
      replace HS := ((((HS.front 4 rfl).front 4 rfl).front 4 rfl).front 4 rfl)
      refine (crash_any HS hG.ok (by have := hG.pn; omega) kp hkp (fun w X hx => Kd.C_below hC4 hx.belowOf)).mono ?_
      clear HS
      rintro e w901162 ⟨v901161, rfl, HS⟩
      have hgd901163 : Dk.good (S.crash kp) (i) := good_crash hG _
      refine ⟨_, rfl, ?_⟩
      refine fr_to (l' := (.int .i64 pages :: .slice (some ad) l0.length c0 :: undef :: undef :: q46.a :: .pointer (some ⟨D23, 0, none⟩) :: .pointer (some ⟨g35, 0, none⟩) :: undef :: .pointer (some ⟨g83, 0, none⟩) :: .int .u64 0 :: .int .u64 0 :: .int .i64 0 :: .int .i64 0 :: q46.g :: q46.h :: V8.l q47 (q48.a :: q48.b :: undef :: undef :: undef :: .bool true :: .bool false :: .int .i64 pages :: .bool false :: V8.l qz39 (.slice (some ad) l0.length c0 :: .int .i64 (l0.length : Int) :: .int .i64 (i : Int) :: .bool (decide ((i : Int) < (l0.length : Int))) :: .pointer (some ((ad).add (i * 5))) :: .agg ([.int .i64 3, .int .i64 aa, .int .u64 (uv g_), .slice A3 xs.length c3, .slice A4 kp.length c4] : List Value).toArray :: .pointer (some ⟨g83, 0, none⟩) :: .int .i64 3 :: .bool false :: .bool false :: q49.b :: q49.c :: q49.d :: q49.e :: q49.f :: q49.g :: q49.h :: V8.l q50 (q51.a :: q51.b :: q51.c :: .bool false :: .bool false :: q51.f :: q51.g :: q51.h :: V8.l q52 (V8.l q53 (q54.a :: q54.b :: q54.c :: q54.d :: .bool false :: .bool false :: q54.g :: q54.h :: q55.a :: q55.b :: q55.c :: q55.d :: q55.e :: q55.f :: .bool true :: .bool true :: .pointer (some ⟨D23, 0, none⟩) :: .pointer (some ⟨g83, 4, none⟩) :: .slice A4 kp.length c4 :: .tuple [].toArray :: q56.e :: q56.f :: q56.g :: q56.h :: V8.l q57 (V8.l q58 (V8.l q59 (V8.l q60 (V8.l q61 (V8.l q62 (V8.l q63 (V8.l q64 (V8.l q65 (q66.a :: q66.b :: q66.c :: q66.d :: q66.e :: q66.f :: U16l5r (U4l5r ([])))))))))))))))))) rfl ?_
      refine wpList_nil ?_
      refine hK901158 _ _ ?_
      refine c_region (fun ops901165 hops901164 => ?_)
      clear hops901164
      refine p_run _ (x_loads [vs, vb, vp, .bool R.counted, .int .i64 R.left, .bool R.down] 6 rfl rfl (bkCells (HS.get (.tail _ (.tail _ (.tail _ (.tail _ (.tail _ (.tail _ (.tail _ (.tail _ (.head _)))))))))) 0 _ rfl) (by rfl) (by kernel_rfl) rfl) rfl ?_
      refine p_run _ (x_field (j := 4) _ _ rfl rfl Try.underlying46 rfl (by rfl) rfl) rfl ?_
      refine p_run _ (x_load (.slice A4 kp.length c4) rfl rfl (bkCell (HS.get (.tail _ (.tail _ (.tail _ (.tail _ (.head _)))))) 4 _ rfl) (by rfl)) rfl ?_
      refine w_call [rkV vs vb vp R, .slice A4 kp.length c4] Try.func23 (by kernel_rfl) (by rfl) rfl ?_
      replace HS := (((HS.front 7 rfl).front 7 rfl).front 7 rfl)
      refine (rkCrash_any HS hRO.hT hRO.hpd (Nat.le_trans hRO.hpn (by omega)) hRO.hsl kp hkp (fun w X hx => Kd.C_below hC4 hx.belowOf)).mono ?_
      clear HS
      rintro e w901167 ⟨v901166, rfl, HS⟩
      refine ⟨_, rfl, ?_⟩
      refine St.stores (cs' := [v901166, vb, .slice none 0 0, .bool ((R.crash kp).counted), .int .i64 ((R.crash kp).left), .bool ((R.crash kp).down)]) (HS.front 8 rfl) [v901166, vb, .slice none 0 0, .bool ((R.crash kp).counted), .int .i64 ((R.crash kp).left), .bool ((R.crash kp).down)] 6 rfl rfl (all1 (row_one (HS.get (.head _))) (all1 (row_one (HS.get (.tail _ (.head _)))) (all1 rfl (all1 rfl (all1 rfl (all1 rfl rfl)))))) (by kernel_rfl) rfl (by simp) rfl ?_
      clear HS
      intro w901168 HS
      refine wpList_nil ?_
      refine fr_at (l' := (.int .i64 pages :: .slice (some ad) l0.length c0 :: undef :: undef :: q46.a :: .pointer (some ⟨D23, 0, none⟩) :: .pointer (some ⟨g35, 0, none⟩) :: undef :: .pointer (some ⟨g83, 0, none⟩) :: .int .u64 0 :: .int .u64 0 :: .int .i64 0 :: .int .i64 0 :: q46.g :: q46.h :: V8.l q47 (q48.a :: q48.b :: undef :: undef :: undef :: .bool true :: .bool false :: .int .i64 pages :: .bool false :: V8.l qz39 (.slice (some ad) l0.length c0 :: .int .i64 (l0.length : Int) :: .int .i64 (i : Int) :: .bool (decide ((i : Int) < (l0.length : Int))) :: .pointer (some ((ad).add (i * 5))) :: .agg ([.int .i64 3, .int .i64 aa, .int .u64 (uv g_), .slice A3 xs.length c3, .slice A4 kp.length c4] : List Value).toArray :: .pointer (some ⟨g83, 0, none⟩) :: .int .i64 3 :: .bool false :: .bool false :: q49.b :: q49.c :: q49.d :: q49.e :: q49.f :: q49.g :: q49.h :: V8.l q50 (q51.a :: q51.b :: q51.c :: .bool false :: .bool false :: q51.f :: q51.g :: q51.h :: V8.l q52 (V8.l q53 (q54.a :: q54.b :: q54.c :: q54.d :: .bool false :: .bool false :: q54.g :: q54.h :: q55.a :: q55.b :: q55.c :: q55.d :: q55.e :: q55.f :: .bool true :: .bool true :: .pointer (some ⟨D23, 0, none⟩) :: .pointer (some ⟨g83, 4, none⟩) :: .slice A4 kp.length c4 :: .tuple [].toArray :: rkV vs vb vp R :: .pointer (some ⟨g83, 4, none⟩) :: .slice A4 kp.length c4 :: rkV v901166 vb (.slice none 0 0) (R.crash kp) :: V8.l q57 (V8.l q58 (V8.l q59 (V8.l q60 (V8.l q61 (V8.l q62 (V8.l q63 (V8.l q64 (V8.l q65 (q66.a :: q66.b :: q66.c :: q66.d :: q66.e :: q66.f :: U16l5r (U4l5r ([])))))))))))))))))) rfl ?_
      exact hT97 (S.crash kp) (R.crash kp) v901161 v901166 vb (.slice none 0 0) 0 0 ⟨q46.g, q46.h, .pointer (some ⟨g83, 0, none⟩), .int .i64 3, .bool false, .bool false, q49.b, q49.c⟩ ⟨q49.d, q49.e, q49.f, q49.g, q49.h, q50.a, q50.b, q50.c⟩ ⟨q50.d, q50.e, q50.f, q50.g, q50.h, q51.a, q51.b, q51.c⟩ ⟨.bool false, .bool false, q51.f, q51.g, q51.h, q52.a, q52.b, q52.c⟩ ⟨q52.d, q52.e, q52.f, q52.g, q52.h, q53.a, q53.b, q53.c⟩ ⟨q53.d, q53.e, q53.f, q53.g, q53.h, q54.a, q54.b, q54.c⟩ ⟨q54.d, .bool false, .bool false, q54.g, q54.h, q55.a, q55.b, q55.c⟩ ⟨q55.d, q55.e, q55.f, .bool true, .bool true, .pointer (some ⟨D23, 0, none⟩), .pointer (some ⟨g83, 4, none⟩), .slice A4 kp.length c4⟩ ⟨.tuple [].toArray, rkV vs vb vp R, .pointer (some ⟨g83, 4, none⟩), .slice A4 kp.length c4, rkV v901166 vb (.slice none 0 0) (R.crash kp), q57.a, q57.b, q57.c⟩ ⟨q57.d, q57.e, q57.f, q57.g, q57.h, q58.a, q58.b, q58.c⟩ ⟨q58.d, q58.e, q58.f, q58.g, q58.h, q59.a, q59.b, q59.c⟩ ⟨q59.d, undef, undef, undef, undef, undef, undef, undef⟩ _ (((((((((HS.front 8 rfl).front 1 rfl).front 4 rfl).front 4 rfl).front 4 rfl).front 8 rfl).front 8 rfl).front 8 rfl).front 8 rfl) ⟨rd_crash hRD hG _, (good_crash hG _).mono (Nat.le_succ _), by_crash hBY _⟩
     ·refine c_region (fun ops901170 hops901169 => ?_)
      clear hops901169
      refine p_run _ (x_field (j := 0) _ _ rfl rfl Try.underlying46 rfl (by rfl) rfl) rfl ?_
      refine p_run _ (x_load (.int .i64 4) rfl rfl (bkCell (HS.get (.head _)) 0 _ rfl) (by rfl)) rfl ?_
      refine wpList_nil ?_
      refine hK145 _ _ ?_
      refine wp_block ?_
      refine wp_seq_k (fun K901171 hK901172 => ?_)
      refine c_region (fun ops901174 hops901173 => ?_)
      clear hops901173
      refine p_run _ (x_cmp (k := .i64) (m := 4) (n := 0) .eql false rfl rfl rfl (by decide) rfl) rfl ?_
      refine p_run _ (x_assign (.bool false) rfl rfl) rfl ?_
      refine wpList_nil ?_
      refine hK901172 _ _ ?_
      refine c_false rfl ?_
      refine wp_seq_k (fun K901175 hK901176 => ?_)
      refine c_region (fun ops901178 hops901177 => ?_)
      clear hops901177
      refine p_run _ (x_cmp (k := .i64) (m := 4) (n := 1) .eql false rfl rfl rfl (by decide) rfl) rfl ?_
      refine p_run _ (x_assign (.bool false) rfl rfl) rfl ?_
      refine wpList_nil ?_
      refine fr_at (l' := (.int .i64 pages :: .slice (some ad) l0.length c0 :: undef :: undef :: q46.a :: .pointer (some ⟨D23, 0, none⟩) :: .pointer (some ⟨g35, 0, none⟩) :: undef :: .pointer (some ⟨g83, 0, none⟩) :: .int .u64 0 :: .int .u64 0 :: .int .i64 0 :: .int .i64 0 :: q46.g :: q46.h :: V8.l q47 (q48.a :: q48.b :: undef :: undef :: undef :: .bool true :: .bool false :: .int .i64 pages :: .bool false :: V8.l qz39 (.slice (some ad) l0.length c0 :: .int .i64 (l0.length : Int) :: .int .i64 (i : Int) :: .bool (decide ((i : Int) < (l0.length : Int))) :: .pointer (some ((ad).add (i * 5))) :: .agg ([.int .i64 4, .int .i64 aa, .int .u64 (uv g_), .slice A3 xs.length c3, .slice A4 kp.length c4] : List Value).toArray :: .pointer (some ⟨g83, 0, none⟩) :: .int .i64 4 :: .bool false :: .bool false :: q49.b :: q49.c :: q49.d :: q49.e :: q49.f :: q49.g :: q49.h :: V8.l q50 (q51.a :: q51.b :: q51.c :: .bool false :: .bool false :: q51.f :: q51.g :: q51.h :: V8.l q52 (V8.l q53 (V8.l q54 (V8.l q55 (V8.l q56 (V8.l q57 (V8.l q58 (V8.l q59 (V8.l q60 (V8.l q61 (V8.l q62 (V8.l q63 (V8.l q64 (V8.l q65 (q66.a :: q66.b :: q66.c :: q66.d :: q66.e :: q66.f :: U16l5r (U4l5r ([]))))))))))))))))))))) rfl ?_
      refine hK901176 _ _ ?_
      refine c_false rfl ?_
      refine wp_seq_k (fun K901179 hK901180 => ?_)
      refine c_region (fun ops901182 hops901181 => ?_)
      clear hops901181
      refine p_run _ (x_cmp (k := .i64) (m := 4) (n := 2) .eql false rfl rfl rfl (by decide) rfl) rfl ?_
      refine p_run _ (x_assign (.bool false) rfl rfl) rfl ?_
      refine wpList_nil ?_
      refine hK901180 _ _ ?_
      refine c_false rfl ?_
      refine wp_seq_k (fun K901183 hK901184 => ?_)
      refine c_region (fun ops901186 hops901185 => ?_)
      clear hops901185
      refine p_run _ (x_cmp (k := .i64) (m := 4) (n := 3) .eql false rfl rfl rfl (by decide) rfl) rfl ?_
      refine p_run _ (x_assign (.bool false) rfl rfl) rfl ?_
      refine wpList_nil ?_
      refine hK901184 _ _ ?_
      refine c_false rfl ?_
      refine wp_seq_k (fun K901187 hK901188 => ?_)
      refine wp_seq_k (fun K901189 hK901190 => ?_)
      refine c_region (fun ops901192 hops901191 => ?_)
      clear hops901191
      refine p_run _ (x_cmp (k := .i64) (m := 4) (n := 4) .eql true rfl rfl rfl (by decide) rfl) rfl ?_
      refine p_run _ (x_assign (.bool true) rfl rfl) rfl ?_
      refine wpList_nil ?_
      refine fr_at (l' := (.int .i64 pages :: .slice (some ad) l0.length c0 :: undef :: undef :: q46.a :: .pointer (some ⟨D23, 0, none⟩) :: .pointer (some ⟨g35, 0, none⟩) :: undef :: .pointer (some ⟨g83, 0, none⟩) :: .int .u64 0 :: .int .u64 0 :: .int .i64 0 :: .int .i64 0 :: q46.g :: q46.h :: V8.l q47 (q48.a :: q48.b :: undef :: undef :: undef :: .bool true :: .bool false :: .int .i64 pages :: .bool false :: V8.l qz39 (.slice (some ad) l0.length c0 :: .int .i64 (l0.length : Int) :: .int .i64 (i : Int) :: .bool (decide ((i : Int) < (l0.length : Int))) :: .pointer (some ((ad).add (i * 5))) :: .agg ([.int .i64 4, .int .i64 aa, .int .u64 (uv g_), .slice A3 xs.length c3, .slice A4 kp.length c4] : List Value).toArray :: .pointer (some ⟨g83, 0, none⟩) :: .int .i64 4 :: .bool false :: .bool false :: q49.b :: q49.c :: q49.d :: q49.e :: q49.f :: q49.g :: q49.h :: V8.l q50 (q51.a :: q51.b :: q51.c :: .bool false :: .bool false :: q51.f :: q51.g :: q51.h :: V8.l q52 (V8.l q53 (q54.a :: q54.b :: q54.c :: q54.d :: .bool false :: .bool false :: q54.g :: q54.h :: q55.a :: q55.b :: q55.c :: q55.d :: q55.e :: q55.f :: .bool false :: .bool false :: V8.l q56 (.bool true :: .bool true :: q57.c :: q57.d :: q57.e :: q57.f :: q57.g :: q57.h :: V8.l q58 (V8.l q59 (V8.l q60 (V8.l q61 (V8.l q62 (V8.l q63 (V8.l q64 (V8.l q65 (q66.a :: q66.b :: q66.c :: q66.d :: q66.e :: q66.f :: U16l5r (U4l5r ([])))))))))))))))))) rfl ?_
      refine hK901190 _ _ ?_
      refine c_true rfl ?_
      refine wp_skip ?_
      refine hK901188 _ _ ?_
      refine c_true rfl ?_
      refine wp_seq_k (fun K901193 hK901194 => ?_)
      refine c_region (fun ops901196 hops901195 => ?_)
      clear hops901195
      refine p_run _ (x_move (.pointer (some ⟨D23, 0, none⟩)) rfl rfl) rfl ?_
      refine p_run _ (x_field (j := 1) _ _ rfl rfl Try.underlying46 rfl (by rfl) rfl) rfl ?_
      refine p_run _ (x_load (.int .i64 aa) rfl rfl (bkCell (HS.get (.head _)) 1 _ rfl) (by rfl)) rfl ?_
      refine p_run _ (x_field (j := 0) _ _ rfl rfl Try.underlying46 rfl (by rfl) rfl) rfl ?_
      refine p_run _ (x_load (.int .i64 4) rfl rfl (bkCell (HS.get (.head _)) 0 _ rfl) (by rfl)) rfl ?_
      refine p_run _ (x_cmp (k := .i64) (m := 4) (n := 4) .eql true rfl rfl rfl (by decide) rfl) rfl ?_
      refine w_call [.pointer (some ⟨D23, 0, none⟩), .int .i64 aa, .bool true] Try.func24 (by kernel_rfl) (by rfl) rfl ?_
      replace HS := ((((HS.front 4 rfl).front 4 rfl).front 4 rfl).front 4 rfl)
      refine (spoil_any HS hG.ok (by have := hG.cn; omega) aa true).mono ?_
      clear HS
      rintro e w901197 ⟨rfl, HS⟩
      have hgd901198 : Dk.good (S.spoil aa true) (i + 1) := good_spoil hG aa true
      refine ⟨_, rfl, ?_⟩
      refine p_run (l' := (.int .i64 pages :: .slice (some ad) l0.length c0 :: undef :: undef :: q46.a :: .pointer (some ⟨D23, 0, none⟩) :: .pointer (some ⟨g35, 0, none⟩) :: undef :: .pointer (some ⟨g83, 0, none⟩) :: .int .u64 0 :: .int .u64 0 :: .int .i64 (S.pageE aa) :: .int .i64 0 :: q46.g :: q46.h :: V8.l q47 (q48.a :: q48.b :: undef :: undef :: undef :: .bool true :: .bool false :: .int .i64 pages :: .bool false :: V8.l qz39 (.slice (some ad) l0.length c0 :: .int .i64 (l0.length : Int) :: .int .i64 (i : Int) :: .bool (decide ((i : Int) < (l0.length : Int))) :: .pointer (some ((ad).add (i * 5))) :: .agg ([.int .i64 4, .int .i64 aa, .int .u64 (uv g_), .slice A3 xs.length c3, .slice A4 kp.length c4] : List Value).toArray :: .pointer (some ⟨g83, 0, none⟩) :: .int .i64 4 :: .bool false :: .bool false :: q49.b :: q49.c :: q49.d :: q49.e :: q49.f :: q49.g :: q49.h :: V8.l q50 (q51.a :: q51.b :: q51.c :: .bool false :: .bool false :: q51.f :: q51.g :: q51.h :: V8.l q52 (V8.l q53 (q54.a :: q54.b :: q54.c :: q54.d :: .bool false :: .bool false :: q54.g :: q54.h :: q55.a :: q55.b :: q55.c :: q55.d :: q55.e :: q55.f :: .bool false :: .bool false :: V8.l q56 (.bool true :: .bool true :: q57.c :: .pointer (some ⟨D23, 0, none⟩) :: .pointer (some ⟨g83, 1, none⟩) :: .int .i64 aa :: .pointer (some ⟨g83, 0, none⟩) :: .int .i64 4 :: .bool true :: .int .i64 (S.pageE aa) :: q58.c :: q58.d :: q58.e :: q58.f :: q58.g :: q58.h :: V8.l q59 (V8.l q60 (V8.l q61 (V8.l q62 (V8.l q63 (V8.l q64 (V8.l q65 (q66.a :: q66.b :: q66.c :: q66.d :: q66.e :: q66.f :: U16l5r (U4l5r ([]))))))))))))))))) _ (x_assign (.int .i64 (S.pageE aa)) rfl rfl) rfl ?_
      refine wpList_nil ?_
      refine hK901194 _ _ ?_
      refine c_region (fun ops901200 hops901199 => ?_)
      clear hops901199
      refine p_run _ (x_loads [vs, vb, vp, .bool R.counted, .int .i64 R.left, .bool R.down] 6 rfl rfl (bkCells (HS.get (.tail _ (.tail _ (.tail _ (.tail _ (.tail _ (.tail _ (.tail _ (.tail _ (.head _)))))))))) 0 _ rfl) (by rfl) (by kernel_rfl) rfl) rfl ?_
      refine p_run _ (x_field (j := 1) _ _ rfl rfl Try.underlying46 rfl (by rfl) rfl) rfl ?_
      refine p_run _ (x_load (.int .i64 aa) rfl rfl (bkCell (HS.get (.tail _ (.tail _ (.tail _ (.tail _ (.head _)))))) 1 _ rfl) (by rfl)) rfl ?_
      refine p_run _ (x_field (j := 0) _ _ rfl rfl Try.underlying46 rfl (by rfl) rfl) rfl ?_
      refine p_run _ (x_load (.int .i64 4) rfl rfl (bkCell (HS.get (.tail _ (.tail _ (.tail _ (.tail _ (.head _)))))) 0 _ rfl) (by rfl)) rfl ?_
      refine p_run _ (x_cmp (k := .i64) (m := 4) (n := 4) .eql true rfl rfl rfl (by decide) rfl) rfl ?_
      refine w_call [rkV vs vb vp R, .int .i64 aa, .bool true] Try.func25 (by kernel_rfl) (by rfl) rfl ?_
      replace HS := (((HS.front 7 rfl).front 7 rfl).front 7 rfl)
      refine (rkSpoil_any HS hRO.hb hRO.hsl aa true).mono ?_
      clear HS
      rintro e w901202 ⟨v901201, he_, HS⟩
      rw [(rd_spoil hRD aa true).2] at he_
      subst he_
      refine ⟨_, rfl, ?_⟩
      refine p_run (l' := (.int .i64 pages :: .slice (some ad) l0.length c0 :: undef :: undef :: q46.a :: .pointer (some ⟨D23, 0, none⟩) :: .pointer (some ⟨g35, 0, none⟩) :: undef :: .pointer (some ⟨g83, 0, none⟩) :: .int .u64 0 :: .int .u64 0 :: .int .i64 (S.pageE aa) :: .int .i64 0 :: q46.g :: q46.h :: V8.l q47 (q48.a :: q48.b :: undef :: undef :: undef :: .bool true :: .bool false :: .int .i64 pages :: .bool false :: V8.l qz39 (.slice (some ad) l0.length c0 :: .int .i64 (l0.length : Int) :: .int .i64 (i : Int) :: .bool (decide ((i : Int) < (l0.length : Int))) :: .pointer (some ((ad).add (i * 5))) :: .agg ([.int .i64 4, .int .i64 aa, .int .u64 (uv g_), .slice A3 xs.length c3, .slice A4 kp.length c4] : List Value).toArray :: .pointer (some ⟨g83, 0, none⟩) :: .int .i64 4 :: .bool false :: .bool false :: q49.b :: q49.c :: q49.d :: q49.e :: q49.f :: q49.g :: q49.h :: V8.l q50 (q51.a :: q51.b :: q51.c :: .bool false :: .bool false :: q51.f :: q51.g :: q51.h :: V8.l q52 (V8.l q53 (q54.a :: q54.b :: q54.c :: q54.d :: .bool false :: .bool false :: q54.g :: q54.h :: q55.a :: q55.b :: q55.c :: q55.d :: q55.e :: q55.f :: .bool false :: .bool false :: V8.l q56 (.bool true :: .bool true :: q57.c :: .pointer (some ⟨D23, 0, none⟩) :: .pointer (some ⟨g83, 1, none⟩) :: .int .i64 aa :: .pointer (some ⟨g83, 0, none⟩) :: .int .i64 4 :: .bool true :: .int .i64 (S.pageE aa) :: .tuple [rkV vs v901201 vp (R.spoil aa true), .int .i64 (S.pageE aa)].toArray :: rkV vs vb vp R :: .pointer (some ⟨g83, 1, none⟩) :: .int .i64 aa :: .pointer (some ⟨g83, 0, none⟩) :: .int .i64 4 :: .bool true :: .tuple [rkV vs v901201 vp (R.spoil aa true), .int .i64 (S.pageE aa)].toArray :: q59.c :: q59.d :: q59.e :: q59.f :: q59.g :: q59.h :: V8.l q60 (V8.l q61 (V8.l q62 (V8.l q63 (V8.l q64 (V8.l q65 (q66.a :: q66.b :: q66.c :: q66.d :: q66.e :: q66.f :: U16l5r (U4l5r ([])))))))))))))))) _ (x_move (.tuple [rkV vs v901201 vp (R.spoil aa true), .int .i64 (S.pageE aa)].toArray) rfl rfl) rfl ?_
      refine p_run _ (x_extract (vs := [rkV vs v901201 vp (R.spoil aa true), .int .i64 (S.pageE aa)]) 0 (rkV vs v901201 vp (R.spoil aa true)) rfl rfl rfl) rfl ?_
      refine p_run _ (x_extract (vs := [rkV vs v901201 vp (R.spoil aa true), .int .i64 (S.pageE aa)]) 1 (.int .i64 (S.pageE aa)) rfl rfl rfl) rfl ?_
      refine St.stores (cs' := [vs, v901201, vp, .bool ((R.spoil aa true).counted), .int .i64 ((R.spoil aa true).left), .bool ((R.spoil aa true).down)]) (HS.front 8 rfl) [vs, v901201, vp, .bool ((R.spoil aa true).counted), .int .i64 ((R.spoil aa true).left), .bool ((R.spoil aa true).down)] 6 rfl rfl (all1 (row_one (HS.get (.head _))) (all1 (row_one (HS.get (.tail _ (.head _)))) (all1 (row_one (HS.get (.tail _ (.tail _ (.head _))))) (all1 rfl (all1 rfl (all1 rfl rfl)))))) (by kernel_rfl) rfl (by simp) rfl ?_
      clear HS
      intro w901203 HS
      refine p_run _ (x_assign (.int .i64 (S.pageE aa)) rfl rfl) rfl ?_
      refine wpList_nil ?_
      refine fr_at (l' := (.int .i64 pages :: .slice (some ad) l0.length c0 :: undef :: undef :: q46.a :: .pointer (some ⟨D23, 0, none⟩) :: .pointer (some ⟨g35, 0, none⟩) :: undef :: .pointer (some ⟨g83, 0, none⟩) :: .int .u64 0 :: .int .u64 0 :: .int .i64 (S.pageE aa) :: .int .i64 (S.pageE aa) :: q46.g :: q46.h :: V8.l q47 (q48.a :: q48.b :: undef :: undef :: undef :: .bool true :: .bool false :: .int .i64 pages :: .bool false :: V8.l qz39 (.slice (some ad) l0.length c0 :: .int .i64 (l0.length : Int) :: .int .i64 (i : Int) :: .bool (decide ((i : Int) < (l0.length : Int))) :: .pointer (some ((ad).add (i * 5))) :: .agg ([.int .i64 4, .int .i64 aa, .int .u64 (uv g_), .slice A3 xs.length c3, .slice A4 kp.length c4] : List Value).toArray :: .pointer (some ⟨g83, 0, none⟩) :: .int .i64 4 :: .bool false :: .bool false :: q49.b :: q49.c :: q49.d :: q49.e :: q49.f :: q49.g :: q49.h :: V8.l q50 (q51.a :: q51.b :: q51.c :: .bool false :: .bool false :: q51.f :: q51.g :: q51.h :: V8.l q52 (V8.l q53 (q54.a :: q54.b :: q54.c :: q54.d :: .bool false :: .bool false :: q54.g :: q54.h :: q55.a :: q55.b :: q55.c :: q55.d :: q55.e :: q55.f :: .bool false :: .bool false :: V8.l q56 (.bool true :: .bool true :: q57.c :: .pointer (some ⟨D23, 0, none⟩) :: .pointer (some ⟨g83, 1, none⟩) :: .int .i64 aa :: .pointer (some ⟨g83, 0, none⟩) :: .int .i64 4 :: .bool true :: .int .i64 (S.pageE aa) :: .tuple [rkV vs v901201 vp (R.spoil aa true), .int .i64 (S.pageE aa)].toArray :: rkV vs vb vp R :: .pointer (some ⟨g83, 1, none⟩) :: .int .i64 aa :: .pointer (some ⟨g83, 0, none⟩) :: .int .i64 4 :: .bool true :: .tuple [rkV vs v901201 vp (R.spoil aa true), .int .i64 (S.pageE aa)].toArray :: rkV vs v901201 vp (R.spoil aa true) :: .int .i64 (S.pageE aa) :: q59.e :: q59.f :: q59.g :: q59.h :: V8.l q60 (V8.l q61 (V8.l q62 (V8.l q63 (V8.l q64 (V8.l q65 (q66.a :: q66.b :: q66.c :: q66.d :: q66.e :: q66.f :: U16l5r (U4l5r ([])))))))))))))))) rfl ?_
      exact hT97 (S.spoil aa true) (R.spoil aa true) v vs v901201 vp 0 (S.pageE aa) ⟨q46.g, q46.h, .pointer (some ⟨g83, 0, none⟩), .int .i64 4, .bool false, .bool false, q49.b, q49.c⟩ ⟨q49.d, q49.e, q49.f, q49.g, q49.h, q50.a, q50.b, q50.c⟩ ⟨q50.d, q50.e, q50.f, q50.g, q50.h, q51.a, q51.b, q51.c⟩ ⟨.bool false, .bool false, q51.f, q51.g, q51.h, q52.a, q52.b, q52.c⟩ ⟨q52.d, q52.e, q52.f, q52.g, q52.h, q53.a, q53.b, q53.c⟩ ⟨q53.d, q53.e, q53.f, q53.g, q53.h, q54.a, q54.b, q54.c⟩ ⟨q54.d, .bool false, .bool false, q54.g, q54.h, q55.a, q55.b, q55.c⟩ ⟨q55.d, q55.e, q55.f, .bool false, .bool false, q56.a, q56.b, q56.c⟩ ⟨q56.d, q56.e, q56.f, q56.g, q56.h, .bool true, .bool true, q57.c⟩ ⟨.pointer (some ⟨D23, 0, none⟩), .pointer (some ⟨g83, 1, none⟩), .int .i64 aa, .pointer (some ⟨g83, 0, none⟩), .int .i64 4, .bool true, .int .i64 (S.pageE aa), .tuple [rkV vs v901201 vp (R.spoil aa true), .int .i64 (S.pageE aa)].toArray⟩ ⟨rkV vs vb vp R, .pointer (some ⟨g83, 1, none⟩), .int .i64 aa, .pointer (some ⟨g83, 0, none⟩), .int .i64 4, .bool true, .tuple [rkV vs v901201 vp (R.spoil aa true), .int .i64 (S.pageE aa)].toArray, rkV vs v901201 vp (R.spoil aa true)⟩ ⟨.int .i64 (S.pageE aa), undef, undef, undef, undef, undef, undef, undef⟩ _ (((((((((HS.front 8 rfl).front 1 rfl).front 4 rfl).front 4 rfl).front 4 rfl).front 8 rfl).front 8 rfl).front 8 rfl).front 8 rfl) ⟨(rd_spoil hRD _ _).1, good_spoil hG _ _, by_spoil hBY _ _⟩
     ·refine c_region (fun ops901205 hops901204 => ?_)
      clear hops901204
      refine p_run _ (x_field (j := 0) _ _ rfl rfl Try.underlying46 rfl (by rfl) rfl) rfl ?_
      refine p_run _ (x_load (.int .i64 5) rfl rfl (bkCell (HS.get (.head _)) 0 _ rfl) (by rfl)) rfl ?_
      refine wpList_nil ?_
      refine hK145 _ _ ?_
      refine wp_block ?_
      refine wp_seq_k (fun K901206 hK901207 => ?_)
      refine c_region (fun ops901209 hops901208 => ?_)
      clear hops901208
      refine p_run _ (x_cmp (k := .i64) (m := 5) (n := 0) .eql false rfl rfl rfl (by decide) rfl) rfl ?_
      refine p_run _ (x_assign (.bool false) rfl rfl) rfl ?_
      refine wpList_nil ?_
      refine hK901207 _ _ ?_
      refine c_false rfl ?_
      refine wp_seq_k (fun K901210 hK901211 => ?_)
      refine c_region (fun ops901213 hops901212 => ?_)
      clear hops901212
      refine p_run _ (x_cmp (k := .i64) (m := 5) (n := 1) .eql false rfl rfl rfl (by decide) rfl) rfl ?_
      refine p_run _ (x_assign (.bool false) rfl rfl) rfl ?_
      refine wpList_nil ?_
      refine fr_at (l' := (.int .i64 pages :: .slice (some ad) l0.length c0 :: undef :: undef :: q46.a :: .pointer (some ⟨D23, 0, none⟩) :: .pointer (some ⟨g35, 0, none⟩) :: undef :: .pointer (some ⟨g83, 0, none⟩) :: .int .u64 0 :: .int .u64 0 :: .int .i64 0 :: .int .i64 0 :: q46.g :: q46.h :: V8.l q47 (q48.a :: q48.b :: undef :: undef :: undef :: .bool true :: .bool false :: .int .i64 pages :: .bool false :: V8.l qz39 (.slice (some ad) l0.length c0 :: .int .i64 (l0.length : Int) :: .int .i64 (i : Int) :: .bool (decide ((i : Int) < (l0.length : Int))) :: .pointer (some ((ad).add (i * 5))) :: .agg ([.int .i64 5, .int .i64 aa, .int .u64 (uv g_), .slice A3 xs.length c3, .slice A4 kp.length c4] : List Value).toArray :: .pointer (some ⟨g83, 0, none⟩) :: .int .i64 5 :: .bool false :: .bool false :: q49.b :: q49.c :: q49.d :: q49.e :: q49.f :: q49.g :: q49.h :: V8.l q50 (q51.a :: q51.b :: q51.c :: .bool false :: .bool false :: q51.f :: q51.g :: q51.h :: V8.l q52 (V8.l q53 (V8.l q54 (V8.l q55 (V8.l q56 (V8.l q57 (V8.l q58 (V8.l q59 (V8.l q60 (V8.l q61 (V8.l q62 (V8.l q63 (V8.l q64 (V8.l q65 (q66.a :: q66.b :: q66.c :: q66.d :: q66.e :: q66.f :: U16l5r (U4l5r ([]))))))))))))))))))))) rfl ?_
      refine hK901211 _ _ ?_
      refine c_false rfl ?_
      refine wp_seq_k (fun K901214 hK901215 => ?_)
      refine c_region (fun ops901217 hops901216 => ?_)
      clear hops901216
      refine p_run _ (x_cmp (k := .i64) (m := 5) (n := 2) .eql false rfl rfl rfl (by decide) rfl) rfl ?_
      refine p_run _ (x_assign (.bool false) rfl rfl) rfl ?_
      refine wpList_nil ?_
      refine hK901215 _ _ ?_
      refine c_false rfl ?_
      refine wp_seq_k (fun K901218 hK901219 => ?_)
      refine c_region (fun ops901221 hops901220 => ?_)
      clear hops901220
      refine p_run _ (x_cmp (k := .i64) (m := 5) (n := 3) .eql false rfl rfl rfl (by decide) rfl) rfl ?_
      refine p_run _ (x_assign (.bool false) rfl rfl) rfl ?_
      refine wpList_nil ?_
      refine hK901219 _ _ ?_
      refine c_false rfl ?_
      refine wp_seq_k (fun K901222 hK901223 => ?_)
      refine wp_seq_k (fun K901224 hK901225 => ?_)
      refine c_region (fun ops901227 hops901226 => ?_)
      clear hops901226
      refine p_run _ (x_cmp (k := .i64) (m := 5) (n := 4) .eql false rfl rfl rfl (by decide) rfl) rfl ?_
      refine p_run _ (x_assign (.bool false) rfl rfl) rfl ?_
      refine wpList_nil ?_
      refine fr_at (l' := (.int .i64 pages :: .slice (some ad) l0.length c0 :: undef :: undef :: q46.a :: .pointer (some ⟨D23, 0, none⟩) :: .pointer (some ⟨g35, 0, none⟩) :: undef :: .pointer (some ⟨g83, 0, none⟩) :: .int .u64 0 :: .int .u64 0 :: .int .i64 0 :: .int .i64 0 :: q46.g :: q46.h :: V8.l q47 (q48.a :: q48.b :: undef :: undef :: undef :: .bool true :: .bool false :: .int .i64 pages :: .bool false :: V8.l qz39 (.slice (some ad) l0.length c0 :: .int .i64 (l0.length : Int) :: .int .i64 (i : Int) :: .bool (decide ((i : Int) < (l0.length : Int))) :: .pointer (some ((ad).add (i * 5))) :: .agg ([.int .i64 5, .int .i64 aa, .int .u64 (uv g_), .slice A3 xs.length c3, .slice A4 kp.length c4] : List Value).toArray :: .pointer (some ⟨g83, 0, none⟩) :: .int .i64 5 :: .bool false :: .bool false :: q49.b :: q49.c :: q49.d :: q49.e :: q49.f :: q49.g :: q49.h :: V8.l q50 (q51.a :: q51.b :: q51.c :: .bool false :: .bool false :: q51.f :: q51.g :: q51.h :: V8.l q52 (V8.l q53 (q54.a :: q54.b :: q54.c :: q54.d :: .bool false :: .bool false :: q54.g :: q54.h :: q55.a :: q55.b :: q55.c :: q55.d :: q55.e :: q55.f :: .bool false :: .bool false :: V8.l q56 (.bool false :: .bool false :: q57.c :: q57.d :: q57.e :: q57.f :: q57.g :: q57.h :: V8.l q58 (V8.l q59 (V8.l q60 (V8.l q61 (V8.l q62 (V8.l q63 (V8.l q64 (V8.l q65 (q66.a :: q66.b :: q66.c :: q66.d :: q66.e :: q66.f :: U16l5r (U4l5r ([])))))))))))))))))) rfl ?_
      refine hK901225 _ _ ?_
      refine c_false rfl ?_
      refine c_region (fun ops901229 hops901228 => ?_)
      clear hops901228
      refine p_run _ (x_cmp (k := .i64) (m := 5) (n := 5) .eql true rfl rfl rfl (by decide) rfl) rfl ?_
      refine p_run _ (x_assign (.bool true) rfl rfl) rfl ?_
      refine wpList_nil ?_
      refine hK901223 _ _ ?_
      refine c_true rfl ?_
      refine wp_seq_k (fun K901230 hK901231 => ?_)
      refine c_region (fun ops901233 hops901232 => ?_)
      clear hops901232
      refine p_run _ (x_move (.pointer (some ⟨D23, 0, none⟩)) rfl rfl) rfl ?_
      refine p_run _ (x_field (j := 1) _ _ rfl rfl Try.underlying46 rfl (by rfl) rfl) rfl ?_
      refine p_run _ (x_load (.int .i64 aa) rfl rfl (bkCell (HS.get (.head _)) 1 _ rfl) (by rfl)) rfl ?_
      refine p_run _ (x_field (j := 0) _ _ rfl rfl Try.underlying46 rfl (by rfl) rfl) rfl ?_
      refine p_run _ (x_load (.int .i64 5) rfl rfl (bkCell (HS.get (.head _)) 0 _ rfl) (by rfl)) rfl ?_
      refine p_run (l' := (.int .i64 pages :: .slice (some ad) l0.length c0 :: undef :: undef :: q46.a :: .pointer (some ⟨D23, 0, none⟩) :: .pointer (some ⟨g35, 0, none⟩) :: undef :: .pointer (some ⟨g83, 0, none⟩) :: .int .u64 0 :: .int .u64 0 :: .int .i64 0 :: .int .i64 0 :: q46.g :: q46.h :: V8.l q47 (q48.a :: q48.b :: undef :: undef :: undef :: .bool true :: .bool false :: .int .i64 pages :: .bool false :: V8.l qz39 (.slice (some ad) l0.length c0 :: .int .i64 (l0.length : Int) :: .int .i64 (i : Int) :: .bool (decide ((i : Int) < (l0.length : Int))) :: .pointer (some ((ad).add (i * 5))) :: .agg ([.int .i64 5, .int .i64 aa, .int .u64 (uv g_), .slice A3 xs.length c3, .slice A4 kp.length c4] : List Value).toArray :: .pointer (some ⟨g83, 0, none⟩) :: .int .i64 5 :: .bool false :: .bool false :: q49.b :: q49.c :: q49.d :: q49.e :: q49.f :: q49.g :: q49.h :: V8.l q50 (q51.a :: q51.b :: q51.c :: .bool false :: .bool false :: q51.f :: q51.g :: q51.h :: V8.l q52 (V8.l q53 (q54.a :: q54.b :: q54.c :: q54.d :: .bool false :: .bool false :: q54.g :: q54.h :: q55.a :: q55.b :: q55.c :: q55.d :: q55.e :: q55.f :: .bool false :: .bool false :: V8.l q56 (.bool true :: .bool false :: .bool true :: .pointer (some ⟨D23, 0, none⟩) :: .pointer (some ⟨g83, 1, none⟩) :: .int .i64 aa :: .pointer (some ⟨g83, 0, none⟩) :: .int .i64 5 :: .bool false :: q58.b :: q58.c :: q58.d :: q58.e :: q58.f :: q58.g :: q58.h :: V8.l q59 (V8.l q60 (V8.l q61 (V8.l q62 (V8.l q63 (V8.l q64 (V8.l q65 (q66.a :: q66.b :: q66.c :: q66.d :: q66.e :: q66.f :: U16l5r (U4l5r ([]))))))))))))))))) _ (x_cmp (k := .i64) (m := 5) (n := 4) .eql false rfl rfl rfl (by decide) rfl) rfl ?_
      refine w_call [.pointer (some ⟨D23, 0, none⟩), .int .i64 aa, .bool false] Try.func24 (by kernel_rfl) (by rfl) rfl ?_
      replace HS := ((((HS.front 4 rfl).front 4 rfl).front 4 rfl).front 4 rfl)
      refine (spoil_any HS hG.ok (by have := hG.cn; omega) aa false).mono ?_
      clear HS
      rintro e w901234 ⟨rfl, HS⟩
      have hgd901235 : Dk.good (S.spoil aa false) (i + 1) := good_spoil hG aa false
      refine ⟨_, rfl, ?_⟩
      refine p_run _ (x_assign (.int .i64 (S.pageE aa)) rfl rfl) rfl ?_
      refine wpList_nil ?_
      refine hK901231 _ _ ?_
      refine c_region (fun ops901237 hops901236 => ?_)
      clear hops901236
      refine p_run _ (x_loads [vs, vb, vp, .bool R.counted, .int .i64 R.left, .bool R.down] 6 rfl rfl (bkCells (HS.get (.tail _ (.tail _ (.tail _ (.tail _ (.tail _ (.tail _ (.tail _ (.tail _ (.head _)))))))))) 0 _ rfl) (by rfl) (by kernel_rfl) rfl) rfl ?_
      refine p_run _ (x_field (j := 1) _ _ rfl rfl Try.underlying46 rfl (by rfl) rfl) rfl ?_
      refine p_run _ (x_load (.int .i64 aa) rfl rfl (bkCell (HS.get (.tail _ (.tail _ (.tail _ (.tail _ (.head _)))))) 1 _ rfl) (by rfl)) rfl ?_
      refine p_run _ (x_field (j := 0) _ _ rfl rfl Try.underlying46 rfl (by rfl) rfl) rfl ?_
      refine p_run _ (x_load (.int .i64 5) rfl rfl (bkCell (HS.get (.tail _ (.tail _ (.tail _ (.tail _ (.head _)))))) 0 _ rfl) (by rfl)) rfl ?_
      refine p_run (l' := (.int .i64 pages :: .slice (some ad) l0.length c0 :: undef :: undef :: q46.a :: .pointer (some ⟨D23, 0, none⟩) :: .pointer (some ⟨g35, 0, none⟩) :: undef :: .pointer (some ⟨g83, 0, none⟩) :: .int .u64 0 :: .int .u64 0 :: .int .i64 (S.pageE aa) :: .int .i64 0 :: q46.g :: q46.h :: V8.l q47 (q48.a :: q48.b :: undef :: undef :: undef :: .bool true :: .bool false :: .int .i64 pages :: .bool false :: V8.l qz39 (.slice (some ad) l0.length c0 :: .int .i64 (l0.length : Int) :: .int .i64 (i : Int) :: .bool (decide ((i : Int) < (l0.length : Int))) :: .pointer (some ((ad).add (i * 5))) :: .agg ([.int .i64 5, .int .i64 aa, .int .u64 (uv g_), .slice A3 xs.length c3, .slice A4 kp.length c4] : List Value).toArray :: .pointer (some ⟨g83, 0, none⟩) :: .int .i64 5 :: .bool false :: .bool false :: q49.b :: q49.c :: q49.d :: q49.e :: q49.f :: q49.g :: q49.h :: V8.l q50 (q51.a :: q51.b :: q51.c :: .bool false :: .bool false :: q51.f :: q51.g :: q51.h :: V8.l q52 (V8.l q53 (q54.a :: q54.b :: q54.c :: q54.d :: .bool false :: .bool false :: q54.g :: q54.h :: q55.a :: q55.b :: q55.c :: q55.d :: q55.e :: q55.f :: .bool false :: .bool false :: V8.l q56 (.bool true :: .bool false :: .bool true :: .pointer (some ⟨D23, 0, none⟩) :: .pointer (some ⟨g83, 1, none⟩) :: .int .i64 aa :: .pointer (some ⟨g83, 0, none⟩) :: .int .i64 5 :: .bool false :: .int .i64 (S.pageE aa) :: q58.c :: rkV vs vb vp R :: .pointer (some ⟨g83, 1, none⟩) :: .int .i64 aa :: .pointer (some ⟨g83, 0, none⟩) :: .int .i64 5 :: .bool false :: q59.b :: q59.c :: q59.d :: q59.e :: q59.f :: q59.g :: q59.h :: V8.l q60 (V8.l q61 (V8.l q62 (V8.l q63 (V8.l q64 (V8.l q65 (q66.a :: q66.b :: q66.c :: q66.d :: q66.e :: q66.f :: U16l5r (U4l5r ([])))))))))))))))) _ (x_cmp (k := .i64) (m := 5) (n := 4) .eql false rfl rfl rfl (by decide) rfl) rfl ?_
      refine w_call [rkV vs vb vp R, .int .i64 aa, .bool false] Try.func25 (by kernel_rfl) (by rfl) rfl ?_
      replace HS := (((HS.front 7 rfl).front 7 rfl).front 7 rfl)
      refine (rkSpoil_any HS hRO.hb hRO.hsl aa false).mono ?_
      clear HS
      rintro e w901239 ⟨v901238, he_, HS⟩
      rw [(rd_spoil hRD aa false).2] at he_
      subst he_
      refine ⟨_, rfl, ?_⟩
      refine p_run _ (x_move (.tuple [rkV vs v901238 vp (R.spoil aa false), .int .i64 (S.pageE aa)].toArray) rfl rfl) rfl ?_
      refine p_run _ (x_extract (vs := [rkV vs v901238 vp (R.spoil aa false), .int .i64 (S.pageE aa)]) 0 (rkV vs v901238 vp (R.spoil aa false)) rfl rfl rfl) rfl ?_
      refine p_run _ (x_extract (vs := [rkV vs v901238 vp (R.spoil aa false), .int .i64 (S.pageE aa)]) 1 (.int .i64 (S.pageE aa)) rfl rfl rfl) rfl ?_
      refine St.stores (cs' := [vs, v901238, vp, .bool ((R.spoil aa false).counted), .int .i64 ((R.spoil aa false).left), .bool ((R.spoil aa false).down)]) (HS.front 8 rfl) [vs, v901238, vp, .bool ((R.spoil aa false).counted), .int .i64 ((R.spoil aa false).left), .bool ((R.spoil aa false).down)] 6 rfl rfl (all1 (row_one (HS.get (.head _))) (all1 (row_one (HS.get (.tail _ (.head _)))) (all1 (row_one (HS.get (.tail _ (.tail _ (.head _))))) (all1 rfl (all1 rfl (all1 rfl rfl)))))) (by kernel_rfl) rfl (by simp) rfl ?_
      clear HS
      intro w901240 HS
      refine p_run _ (x_assign (.int .i64 (S.pageE aa)) rfl rfl) rfl ?_
      refine wpList_nil ?_
      refine fr_at (l' := (.int .i64 pages :: .slice (some ad) l0.length c0 :: undef :: undef :: q46.a :: .pointer (some ⟨D23, 0, none⟩) :: .pointer (some ⟨g35, 0, none⟩) :: undef :: .pointer (some ⟨g83, 0, none⟩) :: .int .u64 0 :: .int .u64 0 :: .int .i64 (S.pageE aa) :: .int .i64 (S.pageE aa) :: q46.g :: q46.h :: V8.l q47 (q48.a :: q48.b :: undef :: undef :: undef :: .bool true :: .bool false :: .int .i64 pages :: .bool false :: V8.l qz39 (.slice (some ad) l0.length c0 :: .int .i64 (l0.length : Int) :: .int .i64 (i : Int) :: .bool (decide ((i : Int) < (l0.length : Int))) :: .pointer (some ((ad).add (i * 5))) :: .agg ([.int .i64 5, .int .i64 aa, .int .u64 (uv g_), .slice A3 xs.length c3, .slice A4 kp.length c4] : List Value).toArray :: .pointer (some ⟨g83, 0, none⟩) :: .int .i64 5 :: .bool false :: .bool false :: q49.b :: q49.c :: q49.d :: q49.e :: q49.f :: q49.g :: q49.h :: V8.l q50 (q51.a :: q51.b :: q51.c :: .bool false :: .bool false :: q51.f :: q51.g :: q51.h :: V8.l q52 (V8.l q53 (q54.a :: q54.b :: q54.c :: q54.d :: .bool false :: .bool false :: q54.g :: q54.h :: q55.a :: q55.b :: q55.c :: q55.d :: q55.e :: q55.f :: .bool false :: .bool false :: V8.l q56 (.bool true :: .bool false :: .bool true :: .pointer (some ⟨D23, 0, none⟩) :: .pointer (some ⟨g83, 1, none⟩) :: .int .i64 aa :: .pointer (some ⟨g83, 0, none⟩) :: .int .i64 5 :: .bool false :: .int .i64 (S.pageE aa) :: .tuple [rkV vs v901238 vp (R.spoil aa false), .int .i64 (S.pageE aa)].toArray :: rkV vs vb vp R :: .pointer (some ⟨g83, 1, none⟩) :: .int .i64 aa :: .pointer (some ⟨g83, 0, none⟩) :: .int .i64 5 :: .bool false :: .tuple [rkV vs v901238 vp (R.spoil aa false), .int .i64 (S.pageE aa)].toArray :: rkV vs v901238 vp (R.spoil aa false) :: .int .i64 (S.pageE aa) :: q59.e :: q59.f :: q59.g :: q59.h :: V8.l q60 (V8.l q61 (V8.l q62 (V8.l q63 (V8.l q64 (V8.l q65 (q66.a :: q66.b :: q66.c :: q66.d :: q66.e :: q66.f :: U16l5r (U4l5r ([])))))))))))))))) rfl ?_
      exact hT97 (S.spoil aa false) (R.spoil aa false) v vs v901238 vp 0 (S.pageE aa) ⟨q46.g, q46.h, .pointer (some ⟨g83, 0, none⟩), .int .i64 5, .bool false, .bool false, q49.b, q49.c⟩ ⟨q49.d, q49.e, q49.f, q49.g, q49.h, q50.a, q50.b, q50.c⟩ ⟨q50.d, q50.e, q50.f, q50.g, q50.h, q51.a, q51.b, q51.c⟩ ⟨.bool false, .bool false, q51.f, q51.g, q51.h, q52.a, q52.b, q52.c⟩ ⟨q52.d, q52.e, q52.f, q52.g, q52.h, q53.a, q53.b, q53.c⟩ ⟨q53.d, q53.e, q53.f, q53.g, q53.h, q54.a, q54.b, q54.c⟩ ⟨q54.d, .bool false, .bool false, q54.g, q54.h, q55.a, q55.b, q55.c⟩ ⟨q55.d, q55.e, q55.f, .bool false, .bool false, q56.a, q56.b, q56.c⟩ ⟨q56.d, q56.e, q56.f, q56.g, q56.h, .bool true, .bool false, .bool true⟩ ⟨.pointer (some ⟨D23, 0, none⟩), .pointer (some ⟨g83, 1, none⟩), .int .i64 aa, .pointer (some ⟨g83, 0, none⟩), .int .i64 5, .bool false, .int .i64 (S.pageE aa), .tuple [rkV vs v901238 vp (R.spoil aa false), .int .i64 (S.pageE aa)].toArray⟩ ⟨rkV vs vb vp R, .pointer (some ⟨g83, 1, none⟩), .int .i64 aa, .pointer (some ⟨g83, 0, none⟩), .int .i64 5, .bool false, .tuple [rkV vs v901238 vp (R.spoil aa false), .int .i64 (S.pageE aa)].toArray, rkV vs v901238 vp (R.spoil aa false)⟩ ⟨.int .i64 (S.pageE aa), undef, undef, undef, undef, undef, undef, undef⟩ _ (((((((((HS.front 8 rfl).front 1 rfl).front 4 rfl).front 4 rfl).front 4 rfl).front 8 rfl).front 8 rfl).front 8 rfl).front 8 rfl) ⟨(rd_spoil hRD _ _).1, good_spoil hG _ _, by_spoil hBY _ _⟩
     ·refine c_region (fun ops901242 hops901241 => ?_)
      clear hops901241
      refine p_run _ (x_field (j := 0) _ _ rfl rfl Try.underlying46 rfl (by rfl) rfl) rfl ?_
      refine p_run _ (x_load (.int .i64 kd) rfl rfl (bkCell (HS.get (.head _)) 0 _ rfl) (by rfl)) rfl ?_
      refine wpList_nil ?_
      refine hK145 _ _ ?_
      refine wp_block ?_
      refine wp_seq_k (fun K901243 hK901244 => ?_)
      refine c_region (fun ops901246 hops901245 => ?_)
      clear hops901245
      refine p_run _ (x_cmp (k := .i64) (m := kd) (n := 0) .eql false rfl rfl rfl (beq_eq_false_iff_ne.2 hk.1) rfl) rfl ?_
      refine p_run _ (x_assign (.bool false) rfl rfl) rfl ?_
      refine wpList_nil ?_
      refine hK901244 _ _ ?_
      refine c_false rfl ?_
      refine wp_seq_k (fun K901247 hK901248 => ?_)
      refine c_region (fun ops901250 hops901249 => ?_)
      clear hops901249
      refine p_run _ (x_cmp (k := .i64) (m := kd) (n := 1) .eql false rfl rfl rfl (beq_eq_false_iff_ne.2 hk.2.1) rfl) rfl ?_
      refine p_run _ (x_assign (.bool false) rfl rfl) rfl ?_
      refine wpList_nil ?_
      refine fr_at (l' := (.int .i64 pages :: .slice (some ad) l0.length c0 :: undef :: undef :: q46.a :: .pointer (some ⟨D23, 0, none⟩) :: .pointer (some ⟨g35, 0, none⟩) :: undef :: .pointer (some ⟨g83, 0, none⟩) :: .int .u64 0 :: .int .u64 0 :: .int .i64 0 :: .int .i64 0 :: q46.g :: q46.h :: V8.l q47 (q48.a :: q48.b :: undef :: undef :: undef :: .bool true :: .bool false :: .int .i64 pages :: .bool false :: V8.l qz39 (.slice (some ad) l0.length c0 :: .int .i64 (l0.length : Int) :: .int .i64 (i : Int) :: .bool (decide ((i : Int) < (l0.length : Int))) :: .pointer (some ((ad).add (i * 5))) :: .agg ([.int .i64 kd, .int .i64 aa, .int .u64 (uv g_), .slice A3 xs.length c3, .slice A4 kp.length c4] : List Value).toArray :: .pointer (some ⟨g83, 0, none⟩) :: .int .i64 kd :: .bool false :: .bool false :: q49.b :: q49.c :: q49.d :: q49.e :: q49.f :: q49.g :: q49.h :: V8.l q50 (q51.a :: q51.b :: q51.c :: .bool false :: .bool false :: q51.f :: q51.g :: q51.h :: V8.l q52 (V8.l q53 (V8.l q54 (V8.l q55 (V8.l q56 (V8.l q57 (V8.l q58 (V8.l q59 (V8.l q60 (V8.l q61 (V8.l q62 (V8.l q63 (V8.l q64 (V8.l q65 (q66.a :: q66.b :: q66.c :: q66.d :: q66.e :: q66.f :: U16l5r (U4l5r ([]))))))))))))))))))))) rfl ?_
      refine hK901248 _ _ ?_
      refine c_false rfl ?_
      refine wp_seq_k (fun K901251 hK901252 => ?_)
      refine c_region (fun ops901254 hops901253 => ?_)
      clear hops901253
      refine p_run _ (x_cmp (k := .i64) (m := kd) (n := 2) .eql false rfl rfl rfl (beq_eq_false_iff_ne.2 hk.2.2.1) rfl) rfl ?_
      refine p_run _ (x_assign (.bool false) rfl rfl) rfl ?_
      refine wpList_nil ?_
      refine hK901252 _ _ ?_
      refine c_false rfl ?_
      refine wp_seq_k (fun K901255 hK901256 => ?_)
      refine c_region (fun ops901258 hops901257 => ?_)
      clear hops901257
      refine p_run _ (x_cmp (k := .i64) (m := kd) (n := 3) .eql false rfl rfl rfl (beq_eq_false_iff_ne.2 hk.2.2.2.1) rfl) rfl ?_
      refine p_run _ (x_assign (.bool false) rfl rfl) rfl ?_
      refine wpList_nil ?_
      refine hK901256 _ _ ?_
      refine c_false rfl ?_
      refine wp_seq_k (fun K901259 hK901260 => ?_)
      refine wp_seq_k (fun K901261 hK901262 => ?_)
      refine c_region (fun ops901264 hops901263 => ?_)
      clear hops901263
      refine p_run _ (x_cmp (k := .i64) (m := kd) (n := 4) .eql false rfl rfl rfl (beq_eq_false_iff_ne.2 hk.2.2.2.2.1) rfl) rfl ?_
      refine p_run _ (x_assign (.bool false) rfl rfl) rfl ?_
      refine wpList_nil ?_
      refine fr_at (l' := (.int .i64 pages :: .slice (some ad) l0.length c0 :: undef :: undef :: q46.a :: .pointer (some ⟨D23, 0, none⟩) :: .pointer (some ⟨g35, 0, none⟩) :: undef :: .pointer (some ⟨g83, 0, none⟩) :: .int .u64 0 :: .int .u64 0 :: .int .i64 0 :: .int .i64 0 :: q46.g :: q46.h :: V8.l q47 (q48.a :: q48.b :: undef :: undef :: undef :: .bool true :: .bool false :: .int .i64 pages :: .bool false :: V8.l qz39 (.slice (some ad) l0.length c0 :: .int .i64 (l0.length : Int) :: .int .i64 (i : Int) :: .bool (decide ((i : Int) < (l0.length : Int))) :: .pointer (some ((ad).add (i * 5))) :: .agg ([.int .i64 kd, .int .i64 aa, .int .u64 (uv g_), .slice A3 xs.length c3, .slice A4 kp.length c4] : List Value).toArray :: .pointer (some ⟨g83, 0, none⟩) :: .int .i64 kd :: .bool false :: .bool false :: q49.b :: q49.c :: q49.d :: q49.e :: q49.f :: q49.g :: q49.h :: V8.l q50 (q51.a :: q51.b :: q51.c :: .bool false :: .bool false :: q51.f :: q51.g :: q51.h :: V8.l q52 (V8.l q53 (q54.a :: q54.b :: q54.c :: q54.d :: .bool false :: .bool false :: q54.g :: q54.h :: q55.a :: q55.b :: q55.c :: q55.d :: q55.e :: q55.f :: .bool false :: .bool false :: V8.l q56 (.bool false :: .bool false :: q57.c :: q57.d :: q57.e :: q57.f :: q57.g :: q57.h :: V8.l q58 (V8.l q59 (V8.l q60 (V8.l q61 (V8.l q62 (V8.l q63 (V8.l q64 (V8.l q65 (q66.a :: q66.b :: q66.c :: q66.d :: q66.e :: q66.f :: U16l5r (U4l5r ([])))))))))))))))))) rfl ?_
      refine hK901262 _ _ ?_
      refine c_false rfl ?_
      refine c_region (fun ops901266 hops901265 => ?_)
      clear hops901265
      refine p_run _ (x_cmp (k := .i64) (m := kd) (n := 5) .eql false rfl rfl rfl (beq_eq_false_iff_ne.2 hk.2.2.2.2.2) rfl) rfl ?_
      refine p_run _ (x_assign (.bool false) rfl rfl) rfl ?_
      refine wpList_nil ?_
      refine hK901260 _ _ ?_
      refine c_false rfl ?_
      refine wp_skip ?_
      exact hT97 S R v vs vb vp 0 0 ⟨q46.g, q46.h, .pointer (some ⟨g83, 0, none⟩), .int .i64 kd, .bool false, .bool false, q49.b, q49.c⟩ ⟨q49.d, q49.e, q49.f, q49.g, q49.h, q50.a, q50.b, q50.c⟩ ⟨q50.d, q50.e, q50.f, q50.g, q50.h, q51.a, q51.b, q51.c⟩ ⟨.bool false, .bool false, q51.f, q51.g, q51.h, q52.a, q52.b, q52.c⟩ ⟨q52.d, q52.e, q52.f, q52.g, q52.h, q53.a, q53.b, q53.c⟩ ⟨q53.d, q53.e, q53.f, q53.g, q53.h, q54.a, q54.b, q54.c⟩ ⟨q54.d, .bool false, .bool false, q54.g, q54.h, q55.a, q55.b, q55.c⟩ ⟨q55.d, q55.e, q55.f, .bool false, .bool false, q56.a, q56.b, q56.c⟩ ⟨q56.d, q56.e, q56.f, q56.g, q56.h, .bool false, .bool false, .bool false⟩ ⟨q57.d, q57.e, q57.f, q57.g, q57.h, q58.a, q58.b, q58.c⟩ ⟨q58.d, q58.e, q58.f, q58.g, q58.h, q59.a, q59.b, q59.c⟩ ⟨q59.d, undef, undef, undef, undef, undef, undef, undef⟩ _ ((((((((HS.front 8 rfl).front 8 rfl).front 8 rfl).front 8 rfl).front 8 rfl).front 8 rfl).front 8 rfl).front 8 rfl) ⟨hRD, hG.mono (Nat.le_succ _), hBY⟩
    ·have hlt : ¬ i < l0.length := by have := of_decide_eq_false hc76; omega
     have hRD2 := hRD
     have hG2 := hG
     obtain ⟨A901267, c901268, hv901269, hcp901270, -⟩ := row_reads (HS.get (.tail _ (.tail _ (.tail _ (.tail _ (.head _))))))
     subst hv901269
     refine wp_exit ?_
     refine hK41 _ _ ?_
     refine wp_seq_k (fun K901271 hK901272 => ?_)
     refine wp_seq_k (fun K901273 hK901274 => ?_)
     refine c_region (fun ops901276 hops901275 => ?_)
     clear hops901275
     refine p_run _ (x_field (j := 0) _ _ rfl rfl Try.underlying53 rfl (by rfl) rfl) rfl ?_
     refine p_run _ (x_load (.slice A901267 R.stable.length c901268) rfl rfl (bkCell (HS.get (.tail _ (.tail _ (.tail _ (.tail _ (.tail _ (.tail _ (.tail _ (.head _))))))))) 0 _ rfl) (by rfl)) rfl ?_
     refine p_run _ (x_len rfl rfl Try.underlying49) rfl ?_
     refine p_run _ (x_move (.int .i64 0) rfl rfl) rfl ?_
     refine wpList_nil ?_
     obtain ⟨qz901277, hqz901277⟩ : ∃ q_ : V8, q_ = ⟨q46.b, q46.c, q46.d, q46.e, q46.f, q46.g, q46.h, q47.a⟩ := ⟨_, rfl⟩
     obtain ⟨qz901278, hqz901278⟩ : ∃ q_ : V8, q_ = ⟨q47.b, q47.c, q47.d, q47.e, q47.f, q47.g, q47.h, q48.a⟩ := ⟨_, rfl⟩
     obtain ⟨qz901279, hqz901279⟩ : ∃ q_ : V8, q_ = ⟨.slice A0 l0.length c0, .int .i64 (l0.length : Int), .int .i64 (i : Int), .bool (decide ((i : Int) < (l0.length : Int))), q48.d, q48.e, q48.f, q48.g⟩ := ⟨_, rfl⟩
     obtain ⟨qz901280, hqz901280⟩ : ∃ q_ : V8, q_ = ⟨q48.h, q49.a, q49.b, q49.c, q49.d, q49.e, q49.f, q49.g⟩ := ⟨_, rfl⟩
     obtain ⟨qz901281, hqz901281⟩ : ∃ q_ : V8, q_ = ⟨q49.h, q50.a, q50.b, q50.c, q50.d, q50.e, q50.f, q50.g⟩ := ⟨_, rfl⟩
     obtain ⟨qz901282, hqz901282⟩ : ∃ q_ : V8, q_ = ⟨q50.h, q51.a, q51.b, q51.c, q51.d, q51.e, q51.f, q51.g⟩ := ⟨_, rfl⟩
     obtain ⟨qz901283, hqz901283⟩ : ∃ q_ : V8, q_ = ⟨q51.h, q52.a, q52.b, q52.c, q52.d, q52.e, q52.f, q52.g⟩ := ⟨_, rfl⟩
     obtain ⟨qz901284, hqz901284⟩ : ∃ q_ : V8, q_ = ⟨q52.h, q53.a, q53.b, q53.c, q53.d, q53.e, q53.f, q53.g⟩ := ⟨_, rfl⟩
     obtain ⟨qz901285, hqz901285⟩ : ∃ q_ : V8, q_ = ⟨q53.h, q54.a, q54.b, q54.c, q54.d, q54.e, q54.f, q54.g⟩ := ⟨_, rfl⟩
     obtain ⟨qz901286, hqz901286⟩ : ∃ q_ : V8, q_ = ⟨q54.h, q55.a, q55.b, q55.c, q55.d, q55.e, q55.f, q55.g⟩ := ⟨_, rfl⟩
     obtain ⟨qz901287, hqz901287⟩ : ∃ q_ : V8, q_ = ⟨q55.h, q56.a, q56.b, q56.c, q56.d, q56.e, q56.f, q56.g⟩ := ⟨_, rfl⟩
     obtain ⟨qz901288, hqz901288⟩ : ∃ q_ : V8, q_ = ⟨q56.h, q57.a, q57.b, q57.c, q57.d, q57.e, q57.f, q57.g⟩ := ⟨_, rfl⟩
     obtain ⟨qz901289, hqz901289⟩ : ∃ q_ : V8, q_ = ⟨q57.h, q58.a, q58.b, q58.c, q58.d, q58.e, q58.f, q58.g⟩ := ⟨_, rfl⟩
     obtain ⟨qz901290, hqz901290⟩ : ∃ q_ : V8, q_ = ⟨q58.h, q59.a, q59.b, q59.c, q59.d, q59.e, q59.f, q59.g⟩ := ⟨_, rfl⟩
     obtain ⟨qz901291, hqz901291⟩ : ∃ q_ : V8, q_ = ⟨q59.h, q60.a, q60.b, q60.c, q60.d, q60.e, q60.f, q60.g⟩ := ⟨_, rfl⟩
     obtain ⟨qz901292, hqz901292⟩ : ∃ q_ : V8, q_ = ⟨q60.h, q61.a, q61.b, q61.c, q61.d, q61.e, q61.f, q61.g⟩ := ⟨_, rfl⟩
     obtain ⟨qz901293, hqz901293⟩ : ∃ q_ : V8, q_ = ⟨q61.h, q62.a, q62.b, q62.c, q62.d, q62.e, q62.f, q62.g⟩ := ⟨_, rfl⟩
     obtain ⟨qz901294, hqz901294⟩ : ∃ q_ : V8, q_ = ⟨q62.h, q63.a, q63.b, q63.c, q63.d, q63.e, q63.f, q63.g⟩ := ⟨_, rfl⟩
     obtain ⟨qz901295, hqz901295⟩ : ∃ q_ : V8, q_ = ⟨q63.h, q64.a, q64.b, q64.c, q64.d, q64.e, q64.f, q64.g⟩ := ⟨_, rfl⟩
     obtain ⟨qz901296, hqz901296⟩ : ∃ q_ : V8, q_ = ⟨q64.h, q65.a, q65.b, q65.c, q65.d, q65.e, q65.f, q65.g⟩ := ⟨_, rfl⟩
     obtain ⟨qz901297, hqz901297⟩ : ∃ q_ : V8, q_ = ⟨q65.h, q66.a, q66.b, q66.c, q66.d, q66.e, q66.f, .pointer (some ⟨g35, 0, none⟩)⟩ := ⟨_, rfl⟩
     refine fr_at (l' := (.int .i64 pages :: .slice A0 l0.length c0 :: undef :: undef :: q46.a :: .pointer (some ⟨D23, 0, none⟩) :: .pointer (some ⟨g35, 0, none⟩) :: undef :: V8.l qz901277 (V8.l qz901278 (q48.b :: undef :: undef :: undef :: .bool true :: .bool false :: .int .i64 pages :: .bool false :: V8.l qz39 (V8.l qz901279 (V8.l qz901280 (V8.l qz901281 (V8.l qz901282 (V8.l qz901283 (V8.l qz901284 (V8.l qz901285 (V8.l qz901286 (V8.l qz901287 (V8.l qz901288 (V8.l qz901289 (V8.l qz901290 (V8.l qz901291 (V8.l qz901292 (V8.l qz901293 (V8.l qz901294 (V8.l qz901295 (V8.l qz901296 (V8.l qz901297 (.slice A901267 R.stable.length c901268 :: .int .i64 (R.stable.length : Int) :: .int .i64 0 :: U16l5r ([]))))))))))))))))))))))))) (by subst hqz901277 hqz901278 hqz901279 hqz901280 hqz901281 hqz901282 hqz901283 hqz901284 hqz901285 hqz901286 hqz901287 hqz901288 hqz901289 hqz901290 hqz901291 hqz901292 hqz901293 hqz901294 hqz901295 hqz901296 hqz901297; rfl) ?_
     refine hK901274 _ _ ?_
     refine wp_block ?_
     have hsl2 := (rd_ok hRD2 hG2).hsl
     refine c_loop (ι := Nat) (fun i_ a_ w_ => match i_ with | k => ∃ (u4 : Value) (u25 : Value) (u26 : Value) (u27 : Value) (u195 : Value) (u196 : Value) (u197 : Value) (u198 : Value) (u199 : Value) (u200 : Value) (u201 : Value) (u202 : Value) (u203 : Value) (u204 : Value) (u205 : Value) (u206 : Value) (u207 : Value) (u208 : Value) (u209 : Value) (u210 : Value), a_ = fr (.int .i64 pages :: .slice A0 l0.length c0 :: undef :: undef :: u4 :: .pointer (some ⟨D23, 0, none⟩) :: .pointer (some ⟨g35, 0, none⟩) :: undef :: V8.l qz901277 (V8.l qz901278 (q48.b :: u25 :: u26 :: u27 :: .bool true :: .bool false :: .int .i64 pages :: .bool false :: V8.l qz39 (V8.l qz901279 (V8.l qz901280 (V8.l qz901281 (V8.l qz901282 (V8.l qz901283 (V8.l qz901284 (V8.l qz901285 (V8.l qz901286 (V8.l qz901287 (V8.l qz901288 (V8.l qz901289 (V8.l qz901290 (V8.l qz901291 (V8.l qz901292 (V8.l qz901293 (V8.l qz901294 (V8.l qz901295 (V8.l qz901296 (V8.l qz901297 (.slice A901267 R.stable.length c901268 :: .int .i64 (R.stable.length : Int) :: .int .i64 (k : Int) :: u195 :: u196 :: u197 :: u198 :: u199 :: u200 :: u201 :: u202 :: u203 :: u204 :: u205 :: u206 :: u207 :: u208 :: u209 :: u210 :: []))))))))))))))))))))))) ∧ St w (fun _ => False) w_ ([blk D23 (dskC gs24 gm25 v S) 72, blk gs24 (pgs S.stable) 38, mapR gm25 S.cnt S.bad, row kWr rfl 78 v S.pending, row kPg rfl 38 (.slice A901267 R.stable.length c901268) R.stable, row Kd.bool rfl 4 vb R.bad, row kWr rfl 87 vp R.pending, blk g35 [.slice A901267 R.stable.length c901268, vb, vp, .bool R.counted, .int .i64 R.left, .bool R.down] 53]) ∧ (True)) (fun i_ => match i_ with | k => R.stable.length - k) 0 ?_ ?_
     ·exact ⟨_, _, _, _, _, _, _, _, _, _, _, _, _, _, _, _, _, _, _, _, rfl, ((((((((HS.front 7 rfl).front 7 rfl).front 7 rfl).front 7 rfl).front 7 rfl).front 7 rfl).front 7 rfl).front 7 rfl), trivial⟩
     ·clear HS
      rintro k a_ w901300 ⟨u4, u25, u26, u27, u195, u196, u197, u198, u199, u200, u201, u202, u203, u204, u205, u206, u207, u208, u209, u210, rfl, HS, hI⟩ J901298 hJ901299
      refine wp_seq_k (fun K901301 hK901302 => ?_)
      refine c_region (fun ops901304 hops901303 => ?_)
      clear hops901303
      refine p_run _ (x_cmp (k := .i64) (m := (k : Int)) (n := (R.stable.length : Int)) .lss (decide ((k : Int) < (R.stable.length : Int))) rfl rfl rfl rfl rfl) rfl ?_
      refine wpList_nil ?_
      refine hK901302 _ _ ?_
      refine wp_seq_k (fun K901305 hK901306 => ?_)
      refine c_cond (t := decide ((k : Int) < (R.stable.length : Int))) rfl (fun hc901307 => ?_) (fun hc901307 => ?_)
      ·have hlk : k < R.stable.length := by have := of_decide_eq_true hc901307; omega
       obtain ⟨as_, x_, has, hx2, hx3, hpc⟩ := pg_get (row_C (HS.get (.tail _ (.tail _ (.tail _ (.tail _ (.head _))))))).2.2 k hlk
       subst has
       have hyes := rdp_yes hRD2 hx2
       refine wp_skip ?_
       refine hK901306 _ _ ?_
       refine wp_seq_k (fun K901308 hK901309 => ?_)
       refine wp_block ?_
       refine wp_seq_k (fun K901310 hK901311 => ?_)
       refine c_region (fun ops901313 hops901312 => ?_)
       clear hops901312
       refine p_run _ (x_move (.int .i64 (k : Int)) rfl rfl) rfl ?_
       refine p_run _ (x_assign (.int .i64 (k : Int)) rfl rfl) rfl ?_
       refine wpList_nil ?_
       refine hK901311 _ _ ?_
       refine wp_seq_k (fun K901314 hK901315 => ?_)
       refine c_region (fun ops901317 hops901316 => ?_)
       clear hops901316
       refine p_run _ (x_move (.pointer (some ⟨D23, 0, none⟩)) rfl rfl) rfl ?_
       refine p_run _ (x_move (.int .i64 (k : Int)) rfl rfl) rfl ?_
       refine w_call [.pointer (some ⟨D23, 0, none⟩), .int .i64 (k : Int)] Try.func28 (by kernel_rfl) (by rfl) rfl ?_
       replace HS := ((((HS.front 3 rfl).front 3 rfl).front 3 rfl).front 3 rfl)
       refine (stable_any HS hG2.ok (k : Int)).mono ?_
       clear HS
       rintro e w901318 ⟨rfl, HS⟩
       refine ⟨_, rfl, ?_⟩
       refine p_run _ (x_move (.tuple [.agg ((nums .u8 (S.stabP (k : Int)))).toArray, .int .i64 (S.pageE (k : Int))].toArray) rfl rfl) rfl ?_
       refine p_run (l' := (.int .i64 pages :: .slice A0 l0.length c0 :: undef :: undef :: u4 :: .pointer (some ⟨D23, 0, none⟩) :: .pointer (some ⟨g35, 0, none⟩) :: undef :: V8.l qz901277 (V8.l qz901278 (q48.b :: .int .i64 (k : Int) :: u26 :: u27 :: .bool true :: .bool false :: .int .i64 pages :: .bool false :: V8.l qz39 (V8.l qz901279 (V8.l qz901280 (V8.l qz901281 (V8.l qz901282 (V8.l qz901283 (V8.l qz901284 (V8.l qz901285 (V8.l qz901286 (V8.l qz901287 (V8.l qz901288 (V8.l qz901289 (V8.l qz901290 (V8.l qz901291 (V8.l qz901292 (V8.l qz901293 (V8.l qz901294 (V8.l qz901295 (V8.l qz901296 (V8.l qz901297 (.slice (some as_) R.stable.length c901268 :: .int .i64 (R.stable.length : Int) :: .int .i64 (k : Int) :: .bool (decide ((k : Int) < (R.stable.length : Int))) :: .int .i64 (k : Int) :: .tuple [.agg ((nums .u8 (S.stabP (k : Int)))).toArray, .int .i64 (S.pageE (k : Int))].toArray :: .pointer (some ⟨D23, 0, none⟩) :: .int .i64 (k : Int) :: .tuple [.agg ((nums .u8 (S.stabP (k : Int)))).toArray, .int .i64 (S.pageE (k : Int))].toArray :: .agg ((nums .u8 (S.stabP (k : Int)))).toArray :: u202 :: u203 :: u204 :: u205 :: u206 :: u207 :: u208 :: u209 :: u210 :: [])))))))))))))))))))))))) _ (x_extract (vs := [.agg ((nums .u8 (S.stabP (k : Int)))).toArray, .int .i64 (S.pageE (k : Int))]) 0 (.agg ((nums .u8 (S.stabP (k : Int)))).toArray) rfl rfl rfl) rfl ?_
       refine p_run _ (x_extract (vs := [.agg ((nums .u8 (S.stabP (k : Int)))).toArray, .int .i64 (S.pageE (k : Int))]) 1 (.int .i64 (S.pageE (k : Int))) rfl rfl rfl) rfl ?_
       refine St.wAlloc HS (cs := ((nums .u8 zpg))) (.agg ((nums .u8 zpg)).toArray) (by kernel_rfl) rfl ?_
       clear HS
       intro g901319 w901320 hg901321 HS
       refine St.stores (cs' := ((nums .u8 (S.stabP (k : Int))))) HS ((nums .u8 (S.stabP (k : Int)))) 256 rfl rfl (nums_one _ _) (by kernel_rfl) (by simp [nums_length, stabP_len hG2.ok]) (by simp [nums_length, stabP_len hG2.ok, zlen]) (lay_all _ _ (by simp [nums_length, stabP_len hG2.ok, zlen])) ?_
       clear HS
       intro w901322 HS
       refine p_run _ (x_assign (.int .i64 (S.pageE (k : Int))) rfl rfl) rfl ?_
       refine wpList_nil ?_
       refine hK901315 _ _ ?_
       refine wp_seq_k (fun K901323 hK901324 => ?_)
       refine free_frame (n := 7) (T := _) [0, 0, 2, 0, 14, 30, 63] [(0, 203), (1, 204), (2, 205), (3, 206), (4, 207), (5, 208), (6, 209)] (fun bq_ vq_ w_ => qv ((fun i_ => match i_ with | 0 => some (.agg ((nums .u8 (S.stabP (k : Int)))).toArray) | 1 => some (.pointer (some ⟨g35, 0, none⟩)) | 2 => some (.slice (some as_) R.stable.length c901268) | 3 => some (.int .i64 (k : Int)) | 4 => some (.pointer (some ((as_).add (k * 256)))) | 5 => some (.agg ((nums .u8 x_)).toArray) | 6 => some (.bool false) | _ => none) : Nat → Option Value) bq_ vq_ ∧ (St w (fun _ => False) w_ ([blk g901319 ((nums .u8 (S.stabP (k : Int)))) 38, blk D23 (dskC gs24 gm25 v S) 72, blk gs24 (pgs S.stable) 38, mapR gm25 S.cnt S.bad, row kWr rfl 78 v S.pending, row kPg rfl 38 (.slice (some as_) R.stable.length c901268) R.stable, row Kd.bool rfl 4 vb R.bad, row kWr rfl 87 vp R.pending, blk g35 [.slice (some as_) R.stable.length c901268, vb, vp, .bool R.counted, .int .i64 R.left, .bool R.down] 53]))) (by kernel_rfl) rfl rfl (by kernel_rfl) (by kernel_rfl) rfl (by kernel_rfl) (by kernel_rfl) ⟨qv_none, HS.draw⟩ ?_ ?_
       ·clear HS
        intro i_ hi_ bq_ vq_ a_ w_ hG hb_ hon hoff hfr hel hval
        obtain ⟨hV, hE⟩ := hG
        have hi_ := List.mem_range.1 hi_
        obtain ⟨l_, rfl⟩ := hfr
        have hv_ := fun (j t : Nat) (v : Value) (h1 : (j, t) ∈ [(0, 203), (1, 204), (2, 205), (3, 206), (4, 207), (5, 208), (6, 209)]) h2 h3 => (hval (j, t) h1 h3).trans (congrArg some (hV j v h2 h3))
        have hcs : i_ = 0 ∨ i_ = 1 ∨ i_ = 2 ∨ i_ = 3 ∨ i_ = 4 ∨ i_ = 5 ∨ i_ = 6 := by omega
        rcases hcs with rfl | rfl | rfl | rfl | rfl | rfl | rfl
        ·have hE0 := hE
         have HS := hE0
         have e26 : evl l_ (.tmp 26) = .pointer (some ⟨g901319, 0, none⟩) := evl_of ((hel 26 (by decide)).trans rfl)
         exact ⟨_, rfl, fun K_ hK_ => q_op _ (x_loads ((nums .u8 (S.stabP (k : Int)))) 256 rfl e26 (bkCells (HS.get (.head _)) 0 _ (whole _)) (by rfl) (by kernel_rfl) (by simp [nums_length, stabP_len hG2.ok])) (hK_ _ _ ⟨qv_up hV (fun _ h => Option.some.inj h), hE⟩)⟩
        ·have e6 : evl l_ (.tmp 6) = .pointer (some ⟨g35, 0, none⟩) := evl_of ((hel 6 (by decide)).trans rfl)
         exact ⟨_, rfl, fun K_ hK_ => q_op _ (x_field (j := 0) _ _ rfl e6 Try.underlying53 rfl (by rfl) rfl) (hK_ _ _ ⟨qv_up hV (fun _ h => Option.some.inj h), hE⟩)⟩
        ·have hE0 := hE
         have HS := hE0
         have e204 : evl l_ (.tmp 204) = .pointer (some ⟨g35, 0, none⟩) := evl_of (hv_ 1 204 _ (by decide) rfl (hon 1 (by decide)))
         exact ⟨_, rfl, fun K_ hK_ => q_op _ (x_load (.slice (some as_) R.stable.length c901268) rfl e204 (bkCell (HS.get (.tail _ (.tail _ (.tail _ (.tail _ (.tail _ (.tail _ (.tail _ (.tail _ (.head _)))))))))) 0 _ rfl) (by rfl)) (hK_ _ _ ⟨qv_up hV (fun _ h => Option.some.inj h), hE⟩)⟩
        ·have e25 : evl l_ (.tmp 25) = .int .i64 (k : Int) := evl_of ((hel 25 (by decide)).trans rfl)
         exact ⟨_, rfl, fun K_ hK_ => q_op _ (x_move (.int .i64 (k : Int)) rfl e25) (hK_ _ _ ⟨qv_up hV (fun _ h => Option.some.inj h), hE⟩)⟩
        ·have e205 : evl l_ (.tmp 205) = .slice (some as_) R.stable.length c901268 := evl_of (hv_ 2 205 _ (by decide) rfl (hon 2 (by decide)))
         have e206 : evl l_ (.tmp 206) = .int .i64 (k : Int) := evl_of (hv_ 3 206 _ (by decide) rfl (hon 3 (by decide)))
         exact ⟨_, rfl, fun K_ hK_ => q_op _ (x_index (A := as_) (j := k * 256) (sz := 256) rfl e205 e206 Try.underlying49 (by kernel_rfl) (by omega) rfl) (hK_ _ _ ⟨qv_up hV (fun _ h => Option.some.inj h), hE⟩)⟩
        ·have hE0 := hE
         have HS := hE0
         have e207 : evl l_ (.tmp 207) = .pointer (some ((as_).add (k * 256))) := evl_of (hv_ 4 207 _ (by decide) rfl (hon 4 (by decide)))
         exact ⟨_, rfl, fun K_ hK_ => q_op _ (x_loads ((nums .u8 x_)) 256 rfl e207 (pg_cell (HS.get (.tail _ (.tail _ (.tail _ (.tail _ (.tail _ (.head _))))))) hx2) (by rfl) (by kernel_rfl) (by simp [hx3, nums_length])) (hK_ _ _ ⟨qv_up hV (fun _ h => Option.some.inj h), hE⟩)⟩
        ·have e203 : evl l_ (.tmp 203) = .agg ((nums .u8 (S.stabP (k : Int)))).toArray := evl_of (hv_ 0 203 _ (by decide) rfl (hon 0 (by decide)))
         have e208 : evl l_ (.tmp 208) = .agg ((nums .u8 x_)).toArray := evl_of (hv_ 5 208 _ (by decide) rfl (hon 5 (by decide)))
         exact ⟨_, rfl, fun K_ hK_ => q_op _ (x_eq .neq (.agg ((nums .u8 (S.stabP (k : Int)))).toArray) (.agg ((nums .u8 x_)).toArray) (decide ((S.stabP (k : Int)) = x_)) false rfl e203 e208 (equal_nums Try.underlying38 Try.underlying5 (by kernel_rfl) (by kernel_rfl) _ _ (by simp [stabP_len hG2.ok]) (by simp [hx3])) (by rw [hyes.2]; simp [eqB]) rfl (guard_agg (by kernel_rfl)) (guard_agg (by kernel_rfl))) (hK_ _ _ ⟨qv_up hV (fun _ h => Option.some.inj h), hE⟩)⟩
       intro bq_ vq_ w_ hall hG
       obtain ⟨hV, hE⟩ := hG
       clear HS
       have HS := hE
       have hv0 := hV 0 _ rfl (hall 0 (by decide))
       have hv1 := hV 1 _ rfl (hall 1 (by decide))
       have hv2 := hV 2 _ rfl (hall 2 (by decide))
       have hv3 := hV 3 _ rfl (hall 3 (by decide))
       have hv4 := hV 4 _ rfl (hall 4 (by decide))
       have hv5 := hV 5 _ rfl (hall 5 (by decide))
       have hv6 := hV 6 _ rfl (hall 6 (by decide))
       clear hV hall
       rw [putSel_fr]
       simp only [tells, List.map_cons, List.map_nil, setAll, List.set_cons_succ, List.set_cons_zero, hv0, hv1, hv2, hv3, hv4, hv5, hv6]
       clear hv0 hv1 hv2 hv3 hv4 hv5 hv6
       generalize w_ = w900501 at HS ⊢
       refine fr_at (l' := (.int .i64 pages :: .slice A0 l0.length c0 :: undef :: undef :: u4 :: .pointer (some ⟨D23, 0, none⟩) :: .pointer (some ⟨g35, 0, none⟩) :: undef :: V8.l qz901277 (V8.l qz901278 (q48.b :: .int .i64 (k : Int) :: .pointer (some ⟨g901319, 0, none⟩) :: .int .i64 (S.pageE (k : Int)) :: .bool true :: .bool false :: .int .i64 pages :: .bool false :: V8.l qz39 (V8.l qz901279 (V8.l qz901280 (V8.l qz901281 (V8.l qz901282 (V8.l qz901283 (V8.l qz901284 (V8.l qz901285 (V8.l qz901286 (V8.l qz901287 (V8.l qz901288 (V8.l qz901289 (V8.l qz901290 (V8.l qz901291 (V8.l qz901292 (V8.l qz901293 (V8.l qz901294 (V8.l qz901295 (V8.l qz901296 (V8.l qz901297 (.slice (some as_) R.stable.length c901268 :: .int .i64 (R.stable.length : Int) :: .int .i64 (k : Int) :: .bool (decide ((k : Int) < (R.stable.length : Int))) :: .int .i64 (k : Int) :: .tuple [.agg ((nums .u8 (S.stabP (k : Int)))).toArray, .int .i64 (S.pageE (k : Int))].toArray :: .pointer (some ⟨D23, 0, none⟩) :: .int .i64 (k : Int) :: .tuple [.agg ((nums .u8 (S.stabP (k : Int)))).toArray, .int .i64 (S.pageE (k : Int))].toArray :: .agg ((nums .u8 (S.stabP (k : Int)))).toArray :: .int .i64 (S.pageE (k : Int)) :: .agg ((nums .u8 (S.stabP (k : Int)))).toArray :: .pointer (some ⟨g35, 0, none⟩) :: .slice (some as_) R.stable.length c901268 :: .int .i64 (k : Int) :: .pointer (some ((as_).add (k * 256))) :: .agg ((nums .u8 x_)).toArray :: .bool false :: u210 :: [])))))))))))))))))))))))) rfl ?_
       refine hK901324 _ _ ?_
       refine c_false rfl ?_
       refine wp_skip ?_
       refine hK901309 _ _ ?_
       refine c_region (fun ops900503 hops900502 => ?_)
       clear hops900502
       refine p_run _ (x_arith (k := .i64) (m := (k : Int)) (n := 1) .add (((k + 1 : Nat) : Int)) rfl rfl rfl (show IntKind.i64.wrap ((k : Int) + 1) = ((k + 1 : Nat) : Int) from ((wr64 (by omega)).trans (by omega))) rfl) rfl ?_
       refine p_run _ (x_move (.int .i64 ((k + 1 : Nat) : Int)) rfl rfl) rfl ?_
       refine wpList_nil ?_
       refine fr_at (l' := (.int .i64 pages :: .slice A0 l0.length c0 :: undef :: undef :: u4 :: .pointer (some ⟨D23, 0, none⟩) :: .pointer (some ⟨g35, 0, none⟩) :: undef :: V8.l qz901277 (V8.l qz901278 (q48.b :: .int .i64 (k : Int) :: .pointer (some ⟨g901319, 0, none⟩) :: .int .i64 (S.pageE (k : Int)) :: .bool true :: .bool false :: .int .i64 pages :: .bool false :: V8.l qz39 (V8.l qz901279 (V8.l qz901280 (V8.l qz901281 (V8.l qz901282 (V8.l qz901283 (V8.l qz901284 (V8.l qz901285 (V8.l qz901286 (V8.l qz901287 (V8.l qz901288 (V8.l qz901289 (V8.l qz901290 (V8.l qz901291 (V8.l qz901292 (V8.l qz901293 (V8.l qz901294 (V8.l qz901295 (V8.l qz901296 (V8.l qz901297 (.slice (some as_) R.stable.length c901268 :: .int .i64 (R.stable.length : Int) :: .int .i64 ((k + 1 : Nat) : Int) :: .bool (decide ((k : Int) < (R.stable.length : Int))) :: .int .i64 (k : Int) :: .tuple [.agg ((nums .u8 (S.stabP (k : Int)))).toArray, .int .i64 (S.pageE (k : Int))].toArray :: .pointer (some ⟨D23, 0, none⟩) :: .int .i64 (k : Int) :: .tuple [.agg ((nums .u8 (S.stabP (k : Int)))).toArray, .int .i64 (S.pageE (k : Int))].toArray :: .agg ((nums .u8 (S.stabP (k : Int)))).toArray :: .int .i64 (S.pageE (k : Int)) :: .agg ((nums .u8 (S.stabP (k : Int)))).toArray :: .pointer (some ⟨g35, 0, none⟩) :: .slice (some as_) R.stable.length c901268 :: .int .i64 (k : Int) :: .pointer (some ((as_).add (k * 256))) :: .agg ((nums .u8 x_)).toArray :: .bool false :: .int .i64 ((k + 1 : Nat) : Int) :: [])))))))))))))))))))))))) rfl ?_
       refine hJ901299 (k + 1) _ _ ?_ ?_
       ·show R.stable.length - (k + 1) < R.stable.length - k; omega
       ·exact ⟨_, _, _, _, _, _, _, _, _, _, _, _, _, _, _, _, _, _, _, _, rfl, ((((((((HS.drop.front 7 rfl).front 7 rfl).front 7 rfl).front 7 rfl).front 7 rfl).front 7 rfl).front 7 rfl).front 7 rfl), trivial⟩
      ·refine wp_exit ?_
       refine hK901272 _ _ ?_
       refine wp_seq_k (fun K900504 hK900505 => ?_)
       refine c_region (fun ops900507 hops900506 => ?_)
       clear hops900506
       refine p_run _ (x_assign (.bool true) rfl rfl) rfl ?_
       refine wpList_nil ?_
       refine hK900505 _ _ ?_
       refine wp_ret ?_
       try simp only [Exit.inBlock, Exit.then]
       refine c_ret (.bool true) (r_tmp rfl rfl) ?_
       exact ⟨rfl, HS.belowOf⟩
  ·refine c_enter Try.func7 rfl 211 rfl (.int .i64 pages :: .slice A0 l0.length c0 :: U64l5r (U64l5r (U64l5r (U16l5r (undef :: []))))) rfl ?_
   refine wp_seq_k (fun K1 hK2 => ?_)
   refine c_region (fun ops4 hops3 => ?_)
   clear hops3
   refine p_run _ (x_assign (.bool false) rfl rfl) rfl ?_
   refine wpList_nil ?_
   refine hK2 _ _ ?_
   refine wp_seq_k (fun K5 hK6 => ?_)
   refine wp_seq_k (fun K7 hK8 => ?_)
   refine c_region (fun ops10 hops9 => ?_)
   clear hops9
   refine w_call [] Try.func12 (by kernel_rfl) (by rfl) rfl ?_
   refine (ralive_any _).mono ?_
   rintro e w11 ⟨rfl, hb_⟩
   replace HS := HS.here hb_
   clear hb_
   refine ⟨_, rfl, ?_⟩
   refine p_run _ (x_not true rfl rfl) rfl ?_
   refine wpList_nil ?_
   refine hK8 _ _ ?_
   refine c_false rfl ?_
   refine wp_skip ?_
   refine hK6 _ _ ?_
   refine wp_seq_k (fun K12 hK13 => ?_)
   refine wp_seq_k (fun K14 hK15 => ?_)
   refine c_region (fun ops17 hops16 => ?_)
   refine p_run _ (x_move (.int .i64 pages) rfl rfl) rfl ?_
   refine p_run _ (x_cmp (k := .i64) (m := pages) (n := 20) .gtr false rfl rfl rfl h0 rfl) rfl ?_
   refine p_run _ (x_move (.bool false) rfl rfl) rfl ?_
   refine p_on rfl (by rw [hops16]; rfl) ?_
   refine p_run _ (x_move (.slice A0 l0.length c0) rfl rfl) rfl ?_
   refine p_on rfl (by rw [hops16]; rfl) ?_
   refine w_call [.slice A0 l0.length c0] Try.func15 (by kernel_rfl) (by rfl) rfl ?_
   refine (great_any _ A0 c0 l0 (Kd.C_below hr0 HS.belowOf) hm).mono ?_
   rintro e w18 ⟨he_, hb_⟩
   rw [hgr] at he_
   subst he_
   replace HS := HS.here hb_
   clear hb_
   refine ⟨_, rfl, ?_⟩
   refine fr_to (l' := (.int .i64 pages :: .slice A0 l0.length c0 :: undef :: undef :: .bool false :: U16l5r (U4l5r (undef :: undef :: undef :: .bool true :: .bool false :: .int .i64 pages :: .bool false :: .bool false :: .slice A0 l0.length c0 :: .bool true :: U64l5r (U64l5r (U32l5r (U16l5r ([])))))))) rfl ?_
   refine p_run _ (x_pick false (.bool true) (.bool true) (.bool true) rfl rfl rfl rfl rfl) rfl ?_
   clear hops16
   refine wpList_nil ?_
   refine hK15 _ _ ?_
   refine c_true rfl ?_
   refine wp_seq_k (fun K19 hK20 => ?_)
   refine c_region (fun ops22 hops21 => ?_)
   clear hops21
   refine p_run _ (x_assign (.bool true) rfl rfl) rfl ?_
   refine wpList_nil ?_
   refine hK20 _ _ ?_
   refine wp_ret ?_
   try simp only [Exit.inBlock, Exit.then]
   refine c_ret (.bool true) (r_tmp rfl rfl) ?_
   exact ⟨rfl, HS.belowOf⟩
theorem rruns_any (pages : Int) (A0 : Option Addr) (c0 : Nat) (l0 : List rAT) (w : World) (hr0 : krA.C w A0 l0.length l0) (hg0 : ∀ y ∈ l0, rAG y) (hm : l0.length ≤ 9223372036854775807) : Calls Try.prog 7 #[.int .i64 pages, .slice A0 l0.length c0] w fun e w' => e = .returned (.bool true) ∧ Below w.heap.size w w' := rruns_law w pages A0 c0 l0 hr0 hg0 hm
end Go.Proofs.Ytenlkobjldhfgaa
