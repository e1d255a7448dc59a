/- frame.numbers, frame.Right. -/
import Derived.Test.YtmachdikonelbaaZFrameReadsFr1
set_option linter.unusedVariables false
set_option linter.unusedSimpArgs false
namespace Go.Proofs.Ytmachdikonelbaa
open Go.RowKit Go.Proofs.YtmachdikonelbaaW.PrintWords Go.Proofs.YtmachdikonelbaaW.PrintLast Crc
abbrev U4f2 (l : List Value) : List Value := undef :: undef :: undef :: undef :: l
abbrev U8f2 (l : List Value) : List Value := U4f2 (U4f2 l)
abbrev U16f2 (l : List Value) : List Value := U8f2 (U8f2 l)
abbrev U32f2 (l : List Value) : List Value := U16f2 (U16f2 l)
abbrev mgV (m : Mg) (A : Option Addr) (c : Nat) (B : Option Addr) (d : Nat) : Value := .agg #[.int .i64 m.k, .int .u32 m.e, .int .u64 m.s, .int .u32 m.te, .int .u32 m.ts, .int .u32 m.be, .int .u32 m.bs, .int .i64 m.ix, .int .i64 m.tt, .int .u32 m.tk, .slice A m.its.length c, .slice B m.hvs.length d]
theorem k_mem (k : Int) : (decide (1 ≤ k) && decide (k ≤ 5)) = decide (k ∈ [1, 2, 3, 4, 5]) := by
  rw [← Bool.decide_and, decide_eq_decide]
  simp only [List.mem_cons, List.not_mem_nil, or_false]
  omega
theorem bool4 (a b c d : Bool) : a = false ∨ (a = true ∧ b = false) ∨ (a = true ∧ b = true ∧ c = false) ∨ (a = true ∧ b = true ∧ c = true ∧ d = false) ∨ (a = true ∧ b = true ∧ c = true ∧ d = true) := by
  cases a <;> cases b <;> cases c <;> cases d <;> simp
set_option maxRecDepth 10000 in
set_option maxHeartbeats 2000000 in
theorem numbers_any (w : World) (m : Mg) (A : Option Addr) (c : Nat) (B : Option Addr) (d : Nat) : Calls Try.prog 29 #[mgV m A c B d] w fun e w' => e = .returned (.bool (nmOk m)) ∧ Below w.heap.size w w' := by
  have HS := St.empty w
  · skip
    refine c_enter Try.func29 rfl 53 rfl (mgV m A c B d :: U32f2 (U16f2 (U4f2 ([])))) rfl ?_
    refine wp_seq_k (fun K1 hK2 => ?_)
    refine c_region (fun ops4 hops3 => ?_)
    clear hops3
    refine St.wBox HS (cs := [.int .i64 m.k, .int .u32 m.e, .int .u64 m.s, .int .u32 m.te, .int .u32 m.ts, .int .u32 m.be, .int .u32 m.bs, .int .i64 m.ix, .int .i64 m.tt, .int .u32 m.tk, .slice A m.its.length c, .slice B m.hvs.length d]) (mgV m A c B d) rfl rfl ?_
    clear HS
    intro g5 w6 hg7 HS
    refine p_run _ (x_assign (.bool false) rfl rfl) rfl ?_
    refine wpList_nil ?_
    refine hK2 _ _ ?_
    refine wp_seq_k (fun K8 hK9 => ?_)
    refine c_region (fun ops11 hops10 => ?_)
    clear hops10
    refine St.wLit HS (cs := [.int .i64 1, .int .i64 2, .int .i64 3, .int .i64 4, .int .i64 5]) 1 (.int .i64 0) Try.underlying100 (by kernel_rfl) (by decide) (by kernel_rfl) ?_
    clear HS
    intro g12 w13 hg14 HS
    refine p_run _ (x_field (j := 0) _ _ rfl rfl Try.underlying33 rfl (by rfl) rfl) rfl ?_
    refine p_run _ (x_load (.int .i64 m.k) rfl rfl (bkCell (HS.get (.tail _ (.head _))) 0 _ rfl) (by rfl)) rfl ?_
    refine w_call [.slice (some ⟨g12, 0, none⟩) 5 5, .int .i64 m.k] Try.func54 (by kernel_rfl) (by rfl) rfl ?_
    refine (conN_any _ _ 5 [1, 2, 3, 4, 5] (ints_reads (HS.get (.head _)) rfl (by simp)) (by decide) m.k).mono ?_
    rintro e w15 ⟨rfl, hb_⟩
    replace HS := HS.here hb_
    clear hb_
    refine ⟨_, rfl, ?_⟩
    refine p_run (l' := (mgV m A c B d :: .pointer (some ⟨g5, 0, none⟩) :: .bool false :: .bool (decide (m.k ∈ [1, 2, 3, 4, 5])) :: undef :: undef :: .slice (some ⟨g12, 0, none⟩) 5 5 :: .pointer (some ⟨g5, 0, none⟩) :: .int .i64 m.k :: .bool (decide (m.k ∈ [1, 2, 3, 4, 5])) :: U32f2 (U8f2 (undef :: undef :: undef :: [])))) _ (x_assign (.bool (decide (m.k ∈ [1, 2, 3, 4, 5]))) rfl rfl) rfl ?_
    refine wpList_nil ?_
    refine hK9 _ _ ?_
    refine wp_seq_k (fun K16 hK17 => ?_)
    have hT18 : ∀ (b4 : Bool) (q19 : V8) (w20 : World), St w (fun _ => False) w20 ([blk g12 [.int .i64 1, .int .i64 2, .int .i64 3, .int .i64 4, .int .i64 5] 3, blk g5 [.int .i64 m.k, .int .u32 m.e, .int .u64 m.s, .int .u32 m.te, .int .u32 m.ts, .int .u32 m.be, .int .u32 m.bs, .int .i64 m.ix, .int .i64 m.tt, .int .u32 m.tk, .slice A m.its.length c, .slice B m.hvs.length d] 33]) → (b4 = (decide (1 ≤ m.e) && decide (m.e ≤ 1048576))) → K16 (fr (mgV m A c B d :: .pointer (some ⟨g5, 0, none⟩) :: .bool false :: .bool (decide (m.k ∈ [1, 2, 3, 4, 5])) :: .bool b4 :: undef :: .slice (some ⟨g12, 0, none⟩) 5 5 :: .pointer (some ⟨g5, 0, none⟩) :: .int .i64 m.k :: .bool (decide (m.k ∈ [1, 2, 3, 4, 5])) :: V8.l q19 (U32f2 (undef :: undef :: undef :: [])))) w20 := by
      clear HS
      intro b4 q19 w20 HS hJ
      refine hK17 _ _ ?_
      have hb4 := hJ
      refine wp_seq_k (fun K21 hK22 => ?_)
      have hT23 : ∀ (b5 : Bool) (q24 : V8) (q25 : V8) (q26 : V8) (w27 : World), St w (fun _ => False) w27 ([blk g12 [.int .i64 1, .int .i64 2, .int .i64 3, .int .i64 4, .int .i64 5] 3, blk g5 [.int .i64 m.k, .int .u32 m.e, .int .u64 m.s, .int .u32 m.te, .int .u32 m.ts, .int .u32 m.be, .int .u32 m.bs, .int .i64 m.ix, .int .i64 m.tt, .int .u32 m.tk, .slice A m.its.length c, .slice B m.hvs.length d] 33]) → (b5 = (decide (0 ≤ m.ix) && decide (m.ix ≤ 64) && decide (0 ≤ m.tt) && decide (m.tt ≤ 64))) → K21 (fr (mgV m A c B d :: .pointer (some ⟨g5, 0, none⟩) :: .bool false :: .bool (decide (m.k ∈ [1, 2, 3, 4, 5])) :: .bool b4 :: .bool b5 :: .slice (some ⟨g12, 0, none⟩) 5 5 :: .pointer (some ⟨g5, 0, none⟩) :: .int .i64 m.k :: .bool (decide (m.k ∈ [1, 2, 3, 4, 5])) :: V8.l q19 (V8.l q24 (V8.l q25 (q26.a :: q26.b :: U16f2 (undef :: [])))))) w27 := by
        clear HS
        intro b5 q24 q25 q26 w27 HS hJ
        refine hK22 _ _ ?_
        have hb5 := hJ
        refine wp_seq_k (fun K28 hK29 => ?_)
        rcases bool4 (decide (m.k ∈ [1, 2, 3, 4, 5])) b4 b5 (lbOk m.te m.ts) with h3 | ⟨h3, h4⟩ | ⟨h3, h4, h5⟩ | ⟨h3, h4, h5, h6⟩ | ⟨h3, h4, h5, h6⟩
        · skip
          rw [h3]
          refine c_region (fun ops31 hops30 => ?_)
          refine p_run _ (x_move (.bool false) rfl rfl) rfl ?_
          refine p_run _ (x_move (.bool false) rfl rfl) rfl ?_
          refine p_off (by rw [hops30]; rfl) rfl ?_
          refine p_run _ (x_pick false (undef) (.bool false) (.bool false) rfl rfl rfl rfl rfl) rfl ?_
          refine p_run _ (x_move (.bool false) rfl rfl) rfl ?_
          refine p_off (by rw [hops30]; rfl) rfl ?_
          refine p_run (l' := (mgV m A c B d :: .pointer (some ⟨g5, 0, none⟩) :: .bool false :: .bool false :: .bool b4 :: .bool b5 :: .slice (some ⟨g12, 0, none⟩) 5 5 :: .pointer (some ⟨g5, 0, none⟩) :: .int .i64 m.k :: .bool false :: V8.l q19 (V8.l q24 (V8.l q25 (q26.a :: q26.b :: .bool false :: .bool false :: undef :: .bool false :: .bool false :: undef :: .bool false :: U8f2 (undef :: undef :: [])))))) _ (x_pick false (undef) (.bool false) (.bool false) rfl rfl rfl rfl rfl) rfl ?_
          refine p_run _ (x_move (.bool false) rfl rfl) rfl ?_
          refine p_off (by rw [hops30]; rfl) rfl ?_
          refine p_off (by rw [hops30]; rfl) rfl ?_
          refine p_off (by rw [hops30]; rfl) rfl ?_
          refine p_run _ (x_pick false (undef) (.bool false) (.bool false) rfl rfl rfl rfl rfl) rfl ?_
          refine p_run _ (x_move (.bool false) rfl rfl) rfl ?_
          refine p_off (l' := (mgV m A c B d :: .pointer (some ⟨g5, 0, none⟩) :: .bool false :: .bool false :: .bool b4 :: .bool b5 :: .slice (some ⟨g12, 0, none⟩) 5 5 :: .pointer (some ⟨g5, 0, none⟩) :: .int .i64 m.k :: .bool false :: V8.l q19 (V8.l q24 (V8.l q25 (q26.a :: q26.b :: .bool false :: .bool false :: undef :: .bool false :: .bool false :: undef :: .bool false :: .bool false :: undef :: undef :: undef :: .bool false :: .bool false :: U4f2 ([])))))) (by rw [hops30]; rfl) rfl ?_
          refine p_off (by rw [hops30]; rfl) rfl ?_
          refine p_off (by rw [hops30]; rfl) rfl ?_
          refine p_run _ (x_pick false (undef) (.bool false) (.bool false) rfl rfl rfl rfl rfl) rfl ?_
          refine p_run _ (x_assign (.bool false) rfl rfl) rfl ?_
          clear hops30
          refine wpList_nil ?_
          refine hK29 _ _ ?_
          refine wp_ret ?_
          try simp only [Exit.inBlock, Exit.then]
          refine c_ret (.bool false) (r_tmp rfl rfl) ?_
          have e1 : nmOk m = false := by
            unfold nmOk
            rw [k_mem, h3]
            simp
          rw [e1]
          exact ⟨rfl, HS.belowOf⟩
        · skip
          rw [h3]
          subst h4
          refine c_region (fun ops33 hops32 => ?_)
          refine p_run _ (x_move (.bool true) rfl rfl) rfl ?_
          refine p_run _ (x_move (.bool true) rfl rfl) rfl ?_
          refine p_on rfl (by rw [hops32]; rfl) ?_
          refine p_run (l' := (mgV m A c B d :: .pointer (some ⟨g5, 0, none⟩) :: .bool false :: .bool true :: .bool false :: .bool b5 :: .slice (some ⟨g12, 0, none⟩) 5 5 :: .pointer (some ⟨g5, 0, none⟩) :: .int .i64 m.k :: .bool true :: V8.l q19 (V8.l q24 (V8.l q25 (q26.a :: q26.b :: .bool true :: .bool true :: .bool false :: U8f2 (U4f2 (undef :: undef :: []))))))) _ (x_move (.bool false) rfl rfl) rfl ?_
          refine p_run _ (x_pick true (.bool false) (.bool false) (.bool false) rfl rfl rfl rfl rfl) rfl ?_
          refine p_run _ (x_move (.bool false) rfl rfl) rfl ?_
          refine p_off (by rw [hops32]; rfl) rfl ?_
          refine p_run _ (x_pick false (undef) (.bool false) (.bool false) rfl rfl rfl rfl rfl) rfl ?_
          refine p_run _ (x_move (.bool false) rfl rfl) rfl ?_
          refine p_off (by rw [hops32]; rfl) rfl ?_
          refine p_off (l' := (mgV m A c B d :: .pointer (some ⟨g5, 0, none⟩) :: .bool false :: .bool true :: .bool false :: .bool b5 :: .slice (some ⟨g12, 0, none⟩) 5 5 :: .pointer (some ⟨g5, 0, none⟩) :: .int .i64 m.k :: .bool true :: V8.l q19 (V8.l q24 (V8.l q25 (q26.a :: q26.b :: .bool true :: .bool true :: .bool false :: .bool false :: .bool false :: undef :: .bool false :: .bool false :: U8f2 (undef :: [])))))) (by rw [hops32]; rfl) rfl ?_
          refine p_off (by rw [hops32]; rfl) rfl ?_
          refine p_run _ (x_pick false (undef) (.bool false) (.bool false) rfl rfl rfl rfl rfl) rfl ?_
          refine p_run _ (x_move (.bool false) rfl rfl) rfl ?_
          refine p_off (by rw [hops32]; rfl) rfl ?_
          refine p_off (by rw [hops32]; rfl) rfl ?_
          refine p_off (by rw [hops32]; rfl) rfl ?_
          refine p_run (l' := (mgV m A c B d :: .pointer (some ⟨g5, 0, none⟩) :: .bool false :: .bool true :: .bool false :: .bool b5 :: .slice (some ⟨g12, 0, none⟩) 5 5 :: .pointer (some ⟨g5, 0, none⟩) :: .int .i64 m.k :: .bool true :: V8.l q19 (V8.l q24 (V8.l q25 (q26.a :: q26.b :: .bool true :: .bool true :: .bool false :: .bool false :: .bool false :: undef :: .bool false :: .bool false :: undef :: undef :: undef :: .bool false :: .bool false :: undef :: undef :: undef :: .bool false :: []))))) _ (x_pick false (undef) (.bool false) (.bool false) rfl rfl rfl rfl rfl) rfl ?_
          refine p_run _ (x_assign (.bool false) rfl rfl) rfl ?_
          clear hops32
          refine wpList_nil ?_
          refine hK29 _ _ ?_
          refine wp_ret ?_
          try simp only [Exit.inBlock, Exit.then]
          refine c_ret (.bool false) (r_tmp rfl rfl) ?_
          have e1 : nmOk m = false := by
            unfold nmOk
            rw [k_mem, h3, ← hb4]
            simp
          rw [e1]
          exact ⟨rfl, HS.belowOf⟩
        · skip
          rw [h3]
          subst h4
          subst h5
          refine c_region (fun ops35 hops34 => ?_)
          refine p_run _ (x_move (.bool true) rfl rfl) rfl ?_
          refine p_run _ (x_move (.bool true) rfl rfl) rfl ?_
          refine p_on rfl (by rw [hops34]; rfl) ?_
          refine p_run _ (x_move (.bool true) rfl rfl) rfl ?_
          refine p_run _ (x_pick true (.bool true) (.bool false) (.bool true) rfl rfl rfl rfl rfl) rfl ?_
          refine p_run _ (x_move (.bool true) rfl rfl) rfl ?_
          refine p_on rfl (by rw [hops34]; rfl) ?_
          refine p_run (l' := (mgV m A c B d :: .pointer (some ⟨g5, 0, none⟩) :: .bool false :: .bool true :: .bool true :: .bool false :: .slice (some ⟨g12, 0, none⟩) 5 5 :: .pointer (some ⟨g5, 0, none⟩) :: .int .i64 m.k :: .bool true :: V8.l q19 (V8.l q24 (V8.l q25 (q26.a :: q26.b :: .bool true :: .bool true :: .bool true :: .bool true :: .bool true :: .bool false :: U8f2 (undef :: undef :: undef :: [])))))) _ (x_move (.bool false) rfl rfl) rfl ?_
          refine p_run _ (x_pick true (.bool false) (.bool false) (.bool false) rfl rfl rfl rfl rfl) rfl ?_
          refine p_run _ (x_move (.bool false) rfl rfl) rfl ?_
          refine p_off (by rw [hops34]; rfl) rfl ?_
          refine p_off (by rw [hops34]; rfl) rfl ?_
          refine p_off (by rw [hops34]; rfl) rfl ?_
          refine p_run _ (x_pick false (undef) (.bool false) (.bool false) rfl rfl rfl rfl rfl) rfl ?_
          refine p_run (l' := (mgV m A c B d :: .pointer (some ⟨g5, 0, none⟩) :: .bool false :: .bool true :: .bool true :: .bool false :: .slice (some ⟨g12, 0, none⟩) 5 5 :: .pointer (some ⟨g5, 0, none⟩) :: .int .i64 m.k :: .bool true :: V8.l q19 (V8.l q24 (V8.l q25 (q26.a :: q26.b :: .bool true :: .bool true :: .bool true :: .bool true :: .bool true :: .bool false :: .bool false :: .bool false :: undef :: undef :: undef :: .bool false :: .bool false :: U4f2 ([])))))) _ (x_move (.bool false) rfl rfl) rfl ?_
          refine p_off (by rw [hops34]; rfl) rfl ?_
          refine p_off (by rw [hops34]; rfl) rfl ?_
          refine p_off (by rw [hops34]; rfl) rfl ?_
          refine p_run _ (x_pick false (undef) (.bool false) (.bool false) rfl rfl rfl rfl rfl) rfl ?_
          refine p_run _ (x_assign (.bool false) rfl rfl) rfl ?_
          clear hops34
          refine wpList_nil ?_
          obtain ⟨qz36, hqz36⟩ : ∃ q_ : V8, q_ = ⟨.int .i64 m.k, .bool true, q19.a, q19.b, q19.c, q19.d, q19.e, q19.f⟩ := ⟨_, rfl⟩
          obtain ⟨qz37, hqz37⟩ : ∃ q_ : V8, q_ = ⟨q19.g, q19.h, q24.a, q24.b, q24.c, q24.d, q24.e, q24.f⟩ := ⟨_, rfl⟩
          obtain ⟨qz38, hqz38⟩ : ∃ q_ : V8, q_ = ⟨q24.g, q24.h, q25.a, q25.b, q25.c, q25.d, q25.e, q25.f⟩ := ⟨_, rfl⟩
          obtain ⟨qz39, hqz39⟩ : ∃ q_ : V8, q_ = ⟨q25.g, q25.h, q26.a, q26.b, .bool true, .bool true, .bool true, .bool true⟩ := ⟨_, rfl⟩
          obtain ⟨qz40, hqz40⟩ : ∃ q_ : V8, q_ = ⟨.bool true, .bool false, .bool false, .bool false, undef, undef, undef, .bool false⟩ := ⟨_, rfl⟩
          refine fr_at (l' := (mgV m A c B d :: .pointer (some ⟨g5, 0, none⟩) :: .bool false :: .bool true :: .bool true :: .bool false :: .slice (some ⟨g12, 0, none⟩) 5 5 :: .pointer (some ⟨g5, 0, none⟩) :: V8.l qz36 (V8.l qz37 (V8.l qz38 (V8.l qz39 (V8.l qz40 (.bool false :: undef :: undef :: undef :: .bool false :: []))))))) (by subst hqz36 hqz37 hqz38 hqz39 hqz40; rfl) ?_
          refine hK29 _ _ ?_
          refine wp_ret ?_
          try simp only [Exit.inBlock, Exit.then]
          refine c_ret (.bool false) (r_tmp rfl rfl) ?_
          have e1 : nmOk m = false := by
            unfold nmOk
            rw [k_mem, h3, ← hb4, ← hb5]
            simp
          rw [e1]
          exact ⟨rfl, HS.belowOf⟩
        · skip
          rw [h3]
          subst h4
          subst h5
          refine c_region (fun ops42 hops41 => ?_)
          refine p_run _ (x_move (.bool true) rfl rfl) rfl ?_
          refine p_run _ (x_move (.bool true) rfl rfl) rfl ?_
          refine p_on rfl (by rw [hops41]; rfl) ?_
          refine p_run _ (x_move (.bool true) rfl rfl) rfl ?_
          refine p_run _ (x_pick true (.bool true) (.bool false) (.bool true) rfl rfl rfl rfl rfl) rfl ?_
          refine p_run _ (x_move (.bool true) rfl rfl) rfl ?_
          refine p_on rfl (by rw [hops41]; rfl) ?_
          refine p_run _ (x_move (.bool true) rfl rfl) rfl ?_
          refine p_run (l' := (mgV m A c B d :: .pointer (some ⟨g5, 0, none⟩) :: .bool false :: .bool true :: .bool true :: .bool true :: .slice (some ⟨g12, 0, none⟩) 5 5 :: .pointer (some ⟨g5, 0, none⟩) :: .int .i64 m.k :: .bool true :: V8.l q19 (V8.l q24 (V8.l q25 (q26.a :: q26.b :: .bool true :: .bool true :: .bool true :: .bool true :: .bool true :: .bool true :: .bool true :: U8f2 (undef :: undef :: [])))))) _ (x_pick true (.bool true) (.bool false) (.bool true) rfl rfl rfl rfl rfl) rfl ?_
          refine p_run _ (x_move (.bool true) rfl rfl) rfl ?_
          refine p_on rfl (by rw [hops41]; rfl) ?_
          refine p_run _ (x_field (j := 3) _ _ rfl rfl Try.underlying33 rfl (by rfl) rfl) rfl ?_
          refine p_on rfl (by rw [hops41]; rfl) ?_
          refine p_run _ (x_loads [.int .u32 m.te, .int .u32 m.ts] 2 rfl rfl (bkCells (HS.get (.tail _ (.head _))) 3 _ rfl) (by rfl) (by kernel_rfl) rfl) rfl ?_
          refine p_on rfl (by rw [hops41]; rfl) ?_
          refine w_call [.agg ([.int .u32 m.te, .int .u32 m.ts] : List Value).toArray] Try.func35 (by kernel_rfl) (by rfl) rfl ?_
          refine (lright_any _ m.te m.ts).mono ?_
          rintro e w43 ⟨he_, hb_⟩
          rw [h6] at he_
          subst he_
          replace HS := HS.here hb_
          clear hb_
          refine ⟨_, rfl, ?_⟩
          refine p_run _ (x_pick true (.bool false) (.bool false) (.bool false) rfl rfl rfl rfl rfl) rfl ?_
          refine p_run _ (x_move (.bool false) rfl rfl) rfl ?_
          refine p_off (l' := (mgV m A c B d :: .pointer (some ⟨g5, 0, none⟩) :: .bool false :: .bool true :: .bool true :: .bool true :: .slice (some ⟨g12, 0, none⟩) 5 5 :: .pointer (some ⟨g5, 0, none⟩) :: .int .i64 m.k :: .bool true :: V8.l q19 (V8.l q24 (V8.l q25 (q26.a :: q26.b :: .bool true :: .bool true :: .bool true :: .bool true :: .bool true :: .bool true :: .bool true :: .bool true :: .pointer (some ⟨g5, 3, none⟩) :: .agg ([.int .u32 m.te, .int .u32 m.ts] : List Value).toArray :: .bool false :: .bool false :: .bool false :: U4f2 ([])))))) (by rw [hops41]; rfl) rfl ?_
          refine p_off (by rw [hops41]; rfl) rfl ?_
          refine p_off (by rw [hops41]; rfl) rfl ?_
          refine p_run _ (x_pick false (undef) (.bool false) (.bool false) rfl rfl rfl rfl rfl) rfl ?_
          refine p_run _ (x_assign (.bool false) rfl rfl) rfl ?_
          clear hops41
          refine wpList_nil ?_
          refine hK29 _ _ ?_
          refine wp_ret ?_
          try simp only [Exit.inBlock, Exit.then]
          refine c_ret (.bool false) (r_tmp rfl rfl) ?_
          have e1 : nmOk m = false := by
            unfold nmOk
            rw [k_mem, h3, ← hb4, ← hb5, h6]
            simp
          rw [e1]
          exact ⟨rfl, HS.belowOf⟩
        · skip
          rw [h3]
          subst h4
          subst h5
          refine c_region (fun ops45 hops44 => ?_)
          refine p_run _ (x_move (.bool true) rfl rfl) rfl ?_
          refine p_run _ (x_move (.bool true) rfl rfl) rfl ?_
          refine p_on rfl (by rw [hops44]; rfl) ?_
          refine p_run (l' := (mgV m A c B d :: .pointer (some ⟨g5, 0, none⟩) :: .bool false :: .bool true :: .bool true :: .bool true :: .slice (some ⟨g12, 0, none⟩) 5 5 :: .pointer (some ⟨g5, 0, none⟩) :: .int .i64 m.k :: .bool true :: V8.l q19 (V8.l q24 (V8.l q25 (q26.a :: q26.b :: .bool true :: .bool true :: .bool true :: U8f2 (U4f2 (undef :: undef :: []))))))) _ (x_move (.bool true) rfl rfl) rfl ?_
          refine p_run _ (x_pick true (.bool true) (.bool false) (.bool true) rfl rfl rfl rfl rfl) rfl ?_
          refine p_run _ (x_move (.bool true) rfl rfl) rfl ?_
          refine p_on rfl (by rw [hops44]; rfl) ?_
          refine p_run _ (x_move (.bool true) rfl rfl) rfl ?_
          refine p_run _ (x_pick true (.bool true) (.bool false) (.bool true) rfl rfl rfl rfl rfl) rfl ?_
          refine p_run _ (x_move (.bool true) rfl rfl) rfl ?_
          refine p_on rfl (by rw [hops44]; rfl) ?_
          refine p_run _ (x_field (j := 3) _ _ rfl rfl Try.underlying33 rfl (by rfl) rfl) rfl ?_
          refine p_on rfl (by rw [hops44]; rfl) ?_
          refine p_run (l' := (mgV m A c B d :: .pointer (some ⟨g5, 0, none⟩) :: .bool false :: .bool true :: .bool true :: .bool true :: .slice (some ⟨g12, 0, none⟩) 5 5 :: .pointer (some ⟨g5, 0, none⟩) :: .int .i64 m.k :: .bool true :: V8.l q19 (V8.l q24 (V8.l q25 (q26.a :: q26.b :: .bool true :: .bool true :: .bool true :: .bool true :: .bool true :: .bool true :: .bool true :: .bool true :: .pointer (some ⟨g5, 3, none⟩) :: .agg ([.int .u32 m.te, .int .u32 m.ts] : List Value).toArray :: U4f2 (undef :: undef :: undef :: [])))))) _ (x_loads [.int .u32 m.te, .int .u32 m.ts] 2 rfl rfl (bkCells (HS.get (.tail _ (.head _))) 3 _ rfl) (by rfl) (by kernel_rfl) rfl) rfl ?_
          refine p_on rfl (by rw [hops44]; rfl) ?_
          refine w_call [.agg ([.int .u32 m.te, .int .u32 m.ts] : List Value).toArray] Try.func35 (by kernel_rfl) (by rfl) rfl ?_
          refine (lright_any _ m.te m.ts).mono ?_
          rintro e w46 ⟨he_, hb_⟩
          rw [h6] at he_
          subst he_
          replace HS := HS.here hb_
          clear hb_
          refine ⟨_, rfl, ?_⟩
          refine p_run _ (x_pick true (.bool true) (.bool false) (.bool true) rfl rfl rfl rfl rfl) rfl ?_
          refine p_run _ (x_move (.bool true) rfl rfl) rfl ?_
          refine p_on rfl (by rw [hops44]; rfl) ?_
          refine p_run _ (x_field (j := 5) _ _ rfl rfl Try.underlying33 rfl (by rfl) rfl) rfl ?_
          refine p_on rfl (by rw [hops44]; rfl) ?_
          refine p_run _ (x_loads [.int .u32 m.be, .int .u32 m.bs] 2 rfl rfl (bkCells (HS.get (.tail _ (.head _))) 5 _ rfl) (by rfl) (by kernel_rfl) rfl) rfl ?_
          refine p_on rfl (by rw [hops44]; rfl) ?_
          refine w_call [.agg ([.int .u32 m.be, .int .u32 m.bs] : List Value).toArray] Try.func35 (by kernel_rfl) (by rfl) rfl ?_
          refine (lright_any _ m.be m.bs).mono ?_
          rintro e w47 ⟨rfl, hb_⟩
          replace HS := HS.here hb_
          clear hb_
          refine ⟨_, rfl, ?_⟩
          refine p_run (l' := (mgV m A c B d :: .pointer (some ⟨g5, 0, none⟩) :: .bool false :: .bool true :: .bool true :: .bool true :: .slice (some ⟨g12, 0, none⟩) 5 5 :: .pointer (some ⟨g5, 0, none⟩) :: .int .i64 m.k :: .bool true :: V8.l q19 (V8.l q24 (V8.l q25 (q26.a :: q26.b :: .bool true :: .bool true :: .bool true :: .bool true :: .bool true :: .bool true :: .bool true :: .bool true :: .pointer (some ⟨g5, 3, none⟩) :: .agg ([.int .u32 m.te, .int .u32 m.ts] : List Value).toArray :: .bool true :: .bool true :: .bool true :: .pointer (some ⟨g5, 5, none⟩) :: .agg ([.int .u32 m.be, .int .u32 m.bs] : List Value).toArray :: .bool (lbOk m.be m.bs) :: .bool (lbOk m.be m.bs) :: []))))) _ (x_pick true (.bool (lbOk m.be m.bs)) (.bool false) (.bool (lbOk m.be m.bs)) rfl rfl rfl rfl rfl) rfl ?_
          refine p_run _ (x_assign (.bool (lbOk m.be m.bs)) rfl rfl) rfl ?_
          clear hops44
          refine wpList_nil ?_
          refine hK29 _ _ ?_
          refine wp_ret ?_
          try simp only [Exit.inBlock, Exit.then]
          refine c_ret (.bool (lbOk m.be m.bs)) (r_tmp rfl rfl) ?_
          have e1 : nmOk m = lbOk m.be m.bs := by
            unfold nmOk
            rw [k_mem, h3, ← hb4, ← hb5, h6]
            simp
          rw [e1]
          exact ⟨rfl, HS.belowOf⟩
      clear hK22
      rcases (by omega : m.ix < 0 ∨ (0 ≤ m.ix ∧ 64 < m.ix) ∨ (0 ≤ m.ix ∧ m.ix ≤ 64 ∧ m.tt < 0) ∨ (0 ≤ m.ix ∧ m.ix ≤ 64 ∧ 0 ≤ m.tt ∧ 64 < m.tt) ∨ (0 ≤ m.ix ∧ m.ix ≤ 64 ∧ 0 ≤ m.tt ∧ m.tt ≤ 64)) with hx | hx | hx | hx | hx
      · skip
        refine c_region (fun ops49 hops48 => ?_)
        refine p_run _ (x_field (j := 7) _ _ rfl rfl Try.underlying33 rfl (by rfl) rfl) rfl ?_
        refine p_run _ (x_load (.int .i64 m.ix) rfl rfl (bkCell (HS.get (.tail _ (.head _))) 7 _ rfl) (by rfl)) rfl ?_
        refine p_run _ (x_cmp (k := .i64) (m := m.ix) (n := 0) .geq false rfl rfl rfl (show decide _ = false from decide_eq_false (by omega)) rfl) rfl ?_
        refine p_run _ (x_move (.bool false) rfl rfl) rfl ?_
        refine p_off (by rw [hops48]; rfl) rfl ?_
        refine p_off (l' := (mgV m A c B d :: .pointer (some ⟨g5, 0, none⟩) :: .bool false :: .bool (decide (m.k ∈ [1, 2, 3, 4, 5])) :: .bool b4 :: undef :: .slice (some ⟨g12, 0, none⟩) 5 5 :: .pointer (some ⟨g5, 0, none⟩) :: .int .i64 m.k :: .bool (decide (m.k ∈ [1, 2, 3, 4, 5])) :: V8.l q19 (.pointer (some ⟨g5, 7, none⟩) :: .int .i64 m.ix :: .bool false :: .bool false :: U16f2 (U8f2 (U4f2 (undef :: undef :: undef :: [])))))) (by rw [hops48]; rfl) rfl ?_
        refine p_off (by rw [hops48]; rfl) rfl ?_
        refine p_run _ (x_pick false (undef) (.bool false) (.bool false) rfl rfl rfl rfl rfl) rfl ?_
        refine p_run _ (x_move (.bool false) rfl rfl) rfl ?_
        refine p_off (by rw [hops48]; rfl) rfl ?_
        refine p_off (by rw [hops48]; rfl) rfl ?_
        refine p_off (by rw [hops48]; rfl) rfl ?_
        refine p_run (l' := (mgV m A c B d :: .pointer (some ⟨g5, 0, none⟩) :: .bool false :: .bool (decide (m.k ∈ [1, 2, 3, 4, 5])) :: .bool b4 :: undef :: .slice (some ⟨g12, 0, none⟩) 5 5 :: .pointer (some ⟨g5, 0, none⟩) :: .int .i64 m.k :: .bool (decide (m.k ∈ [1, 2, 3, 4, 5])) :: V8.l q19 (.pointer (some ⟨g5, 7, none⟩) :: .int .i64 m.ix :: .bool false :: .bool false :: undef :: undef :: undef :: .bool false :: .bool false :: undef :: undef :: undef :: .bool false :: U16f2 (U4f2 (undef :: undef :: []))))) _ (x_pick false (undef) (.bool false) (.bool false) rfl rfl rfl rfl rfl) rfl ?_
        refine p_run _ (x_move (.bool false) rfl rfl) rfl ?_
        refine p_off (by rw [hops48]; rfl) rfl ?_
        refine p_off (by rw [hops48]; rfl) rfl ?_
        refine p_off (by rw [hops48]; rfl) rfl ?_
        refine p_run _ (x_pick false (undef) (.bool false) (.bool false) rfl rfl rfl rfl rfl) rfl ?_
        refine p_run _ (x_assign (.bool false) rfl rfl) rfl ?_
        clear hops48
        refine wpList_nil ?_
        obtain ⟨qz50, hqz50⟩ : ∃ q_ : V8, q_ = ⟨undef, .bool false, .bool false, undef, undef, undef, .bool false, .bool false⟩ := ⟨_, rfl⟩
        refine fr_at (l' := (mgV m A c B d :: .pointer (some ⟨g5, 0, none⟩) :: .bool false :: .bool (decide (m.k ∈ [1, 2, 3, 4, 5])) :: .bool b4 :: .bool false :: .slice (some ⟨g12, 0, none⟩) 5 5 :: .pointer (some ⟨g5, 0, none⟩) :: .int .i64 m.k :: .bool (decide (m.k ∈ [1, 2, 3, 4, 5])) :: V8.l q19 (.pointer (some ⟨g5, 7, none⟩) :: .int .i64 m.ix :: .bool false :: .bool false :: undef :: undef :: V8.l qz50 (undef :: undef :: undef :: .bool false :: U16f2 (undef :: []))))) (by subst hqz50; rfl) ?_
        exact hT23 false ⟨.pointer (some ⟨g5, 7, none⟩), .int .i64 m.ix, .bool false, .bool false, undef, undef, qz50.a, qz50.b⟩ ⟨qz50.c, qz50.d, qz50.e, qz50.f, qz50.g, qz50.h, undef, undef⟩ ⟨undef, .bool false, undef, undef, undef, undef, undef, undef⟩ _ ((HS.front 1 rfl).front 1 rfl) (by rw [decide_eq_false (show ¬ 0 ≤ m.ix by omega)]; simp)
      · skip
        refine c_region (fun ops52 hops51 => ?_)
        refine p_run _ (x_field (j := 7) _ _ rfl rfl Try.underlying33 rfl (by rfl) rfl) rfl ?_
        refine p_run _ (x_load (.int .i64 m.ix) rfl rfl (bkCell (HS.get (.tail _ (.head _))) 7 _ rfl) (by rfl)) rfl ?_
        refine p_run _ (x_cmp (k := .i64) (m := m.ix) (n := 0) .geq true rfl rfl rfl (show decide _ = true from decide_eq_true (by omega)) rfl) rfl ?_
        refine p_run _ (x_move (.bool true) rfl rfl) rfl ?_
        refine p_on rfl (by rw [hops51]; rfl) ?_
        refine p_run _ (x_field (j := 7) _ _ rfl rfl Try.underlying33 rfl (by rfl) rfl) rfl ?_
        refine p_on rfl (by rw [hops51]; rfl) ?_
        refine p_run _ (x_load (.int .i64 m.ix) rfl rfl (bkCell (HS.get (.tail _ (.head _))) 7 _ rfl) (by rfl)) rfl ?_
        refine p_on rfl (by rw [hops51]; rfl) ?_
        refine p_run (l' := (mgV m A c B d :: .pointer (some ⟨g5, 0, none⟩) :: .bool false :: .bool (decide (m.k ∈ [1, 2, 3, 4, 5])) :: .bool b4 :: undef :: .slice (some ⟨g12, 0, none⟩) 5 5 :: .pointer (some ⟨g5, 0, none⟩) :: .int .i64 m.k :: .bool (decide (m.k ∈ [1, 2, 3, 4, 5])) :: V8.l q19 (.pointer (some ⟨g5, 7, none⟩) :: .int .i64 m.ix :: .bool true :: .bool true :: .pointer (some ⟨g5, 7, none⟩) :: .int .i64 m.ix :: .bool false :: U16f2 (U8f2 (U4f2 ([])))))) _ (x_cmp (k := .i64) (m := m.ix) (n := 64) .leq false rfl rfl rfl (show decide _ = false from decide_eq_false (by omega)) rfl) rfl ?_
        refine p_run _ (x_pick true (.bool false) (.bool false) (.bool false) rfl rfl rfl rfl rfl) rfl ?_
        refine p_run _ (x_move (.bool false) rfl rfl) rfl ?_
        refine p_off (by rw [hops51]; rfl) rfl ?_
        refine p_off (by rw [hops51]; rfl) rfl ?_
        refine p_off (by rw [hops51]; rfl) rfl ?_
        refine p_run _ (x_pick false (undef) (.bool false) (.bool false) rfl rfl rfl rfl rfl) rfl ?_
        refine p_run (l' := (mgV m A c B d :: .pointer (some ⟨g5, 0, none⟩) :: .bool false :: .bool (decide (m.k ∈ [1, 2, 3, 4, 5])) :: .bool b4 :: undef :: .slice (some ⟨g12, 0, none⟩) 5 5 :: .pointer (some ⟨g5, 0, none⟩) :: .int .i64 m.k :: .bool (decide (m.k ∈ [1, 2, 3, 4, 5])) :: V8.l q19 (.pointer (some ⟨g5, 7, none⟩) :: .int .i64 m.ix :: .bool true :: .bool true :: .pointer (some ⟨g5, 7, none⟩) :: .int .i64 m.ix :: .bool false :: .bool false :: .bool false :: undef :: undef :: undef :: .bool false :: .bool false :: U16f2 (U4f2 (undef :: []))))) _ (x_move (.bool false) rfl rfl) rfl ?_
        refine p_off (by rw [hops51]; rfl) rfl ?_
        refine p_off (by rw [hops51]; rfl) rfl ?_
        refine p_off (by rw [hops51]; rfl) rfl ?_
        refine p_run _ (x_pick false (undef) (.bool false) (.bool false) rfl rfl rfl rfl rfl) rfl ?_
        refine p_run _ (x_assign (.bool false) rfl rfl) rfl ?_
        clear hops51
        refine wpList_nil ?_
        obtain ⟨qz53, hqz53⟩ : ∃ q_ : V8, q_ = ⟨.bool false, .bool false, .bool false, undef, undef, undef, .bool false, .bool false⟩ := ⟨_, rfl⟩
        refine fr_at (l' := (mgV m A c B d :: .pointer (some ⟨g5, 0, none⟩) :: .bool false :: .bool (decide (m.k ∈ [1, 2, 3, 4, 5])) :: .bool b4 :: .bool false :: .slice (some ⟨g12, 0, none⟩) 5 5 :: .pointer (some ⟨g5, 0, none⟩) :: .int .i64 m.k :: .bool (decide (m.k ∈ [1, 2, 3, 4, 5])) :: V8.l q19 (.pointer (some ⟨g5, 7, none⟩) :: .int .i64 m.ix :: .bool true :: .bool true :: .pointer (some ⟨g5, 7, none⟩) :: .int .i64 m.ix :: V8.l qz53 (undef :: undef :: undef :: .bool false :: U16f2 (undef :: []))))) (by subst hqz53; rfl) ?_
        exact hT23 false ⟨.pointer (some ⟨g5, 7, none⟩), .int .i64 m.ix, .bool true, .bool true, .pointer (some ⟨g5, 7, none⟩), .int .i64 m.ix, qz53.a, qz53.b⟩ ⟨qz53.c, qz53.d, qz53.e, qz53.f, qz53.g, qz53.h, undef, undef⟩ ⟨undef, .bool false, undef, undef, undef, undef, undef, undef⟩ _ ((HS.front 1 rfl).front 1 rfl) (by rw [decide_eq_true (show 0 ≤ m.ix by omega), decide_eq_false (show ¬ m.ix ≤ 64 by omega)]; simp)
      · skip
        refine c_region (fun ops55 hops54 => ?_)
        refine p_run _ (x_field (j := 7) _ _ rfl rfl Try.underlying33 rfl (by rfl) rfl) rfl ?_
        refine p_run _ (x_load (.int .i64 m.ix) rfl rfl (bkCell (HS.get (.tail _ (.head _))) 7 _ rfl) (by rfl)) rfl ?_
        refine p_run _ (x_cmp (k := .i64) (m := m.ix) (n := 0) .geq true rfl rfl rfl (show decide _ = true from decide_eq_true (by omega)) rfl) rfl ?_
        refine p_run _ (x_move (.bool true) rfl rfl) rfl ?_
        refine p_on rfl (by rw [hops54]; rfl) ?_
        refine p_run _ (x_field (j := 7) _ _ rfl rfl Try.underlying33 rfl (by rfl) rfl) rfl ?_
        refine p_on rfl (by rw [hops54]; rfl) ?_
        refine p_run _ (x_load (.int .i64 m.ix) rfl rfl (bkCell (HS.get (.tail _ (.head _))) 7 _ rfl) (by rfl)) rfl ?_
        refine p_on rfl (by rw [hops54]; rfl) ?_
        refine p_run (l' := (mgV m A c B d :: .pointer (some ⟨g5, 0, none⟩) :: .bool false :: .bool (decide (m.k ∈ [1, 2, 3, 4, 5])) :: .bool b4 :: undef :: .slice (some ⟨g12, 0, none⟩) 5 5 :: .pointer (some ⟨g5, 0, none⟩) :: .int .i64 m.k :: .bool (decide (m.k ∈ [1, 2, 3, 4, 5])) :: V8.l q19 (.pointer (some ⟨g5, 7, none⟩) :: .int .i64 m.ix :: .bool true :: .bool true :: .pointer (some ⟨g5, 7, none⟩) :: .int .i64 m.ix :: .bool true :: U16f2 (U8f2 (U4f2 ([])))))) _ (x_cmp (k := .i64) (m := m.ix) (n := 64) .leq true rfl rfl rfl (show decide _ = true from decide_eq_true (by omega)) rfl) rfl ?_
        refine p_run _ (x_pick true (.bool true) (.bool false) (.bool true) rfl rfl rfl rfl rfl) rfl ?_
        refine p_run _ (x_move (.bool true) rfl rfl) rfl ?_
        refine p_on rfl (by rw [hops54]; rfl) ?_
        refine p_run _ (x_field (j := 8) _ _ rfl rfl Try.underlying33 rfl (by rfl) rfl) rfl ?_
        refine p_on rfl (by rw [hops54]; rfl) ?_
        refine p_run _ (x_load (.int .i64 m.tt) rfl rfl (bkCell (HS.get (.tail _ (.head _))) 8 _ rfl) (by rfl)) rfl ?_
        refine p_on rfl (by rw [hops54]; rfl) ?_
        refine p_run _ (x_cmp (k := .i64) (m := m.tt) (n := 0) .geq false rfl rfl rfl (show decide _ = false from decide_eq_false (by omega)) rfl) rfl ?_
        refine p_run _ (x_pick true (.bool false) (.bool false) (.bool false) rfl rfl rfl rfl rfl) rfl ?_
        refine p_run (l' := (mgV m A c B d :: .pointer (some ⟨g5, 0, none⟩) :: .bool false :: .bool (decide (m.k ∈ [1, 2, 3, 4, 5])) :: .bool b4 :: undef :: .slice (some ⟨g12, 0, none⟩) 5 5 :: .pointer (some ⟨g5, 0, none⟩) :: .int .i64 m.k :: .bool (decide (m.k ∈ [1, 2, 3, 4, 5])) :: V8.l q19 (.pointer (some ⟨g5, 7, none⟩) :: .int .i64 m.ix :: .bool true :: .bool true :: .pointer (some ⟨g5, 7, none⟩) :: .int .i64 m.ix :: .bool true :: .bool true :: .bool true :: .pointer (some ⟨g5, 8, none⟩) :: .int .i64 m.tt :: .bool false :: .bool false :: .bool false :: U16f2 (U4f2 (undef :: []))))) _ (x_move (.bool false) rfl rfl) rfl ?_
        refine p_off (by rw [hops54]; rfl) rfl ?_
        refine p_off (by rw [hops54]; rfl) rfl ?_
        refine p_off (by rw [hops54]; rfl) rfl ?_
        refine p_run _ (x_pick false (undef) (.bool false) (.bool false) rfl rfl rfl rfl rfl) rfl ?_
        refine p_run _ (x_assign (.bool false) rfl rfl) rfl ?_
        clear hops54
        refine wpList_nil ?_
        obtain ⟨qz56, hqz56⟩ : ∃ q_ : V8, q_ = ⟨.bool true, .bool true, .bool true, .pointer (some ⟨g5, 8, none⟩), .int .i64 m.tt, .bool false, .bool false, .bool false⟩ := ⟨_, rfl⟩
        refine fr_at (l' := (mgV m A c B d :: .pointer (some ⟨g5, 0, none⟩) :: .bool false :: .bool (decide (m.k ∈ [1, 2, 3, 4, 5])) :: .bool b4 :: .bool false :: .slice (some ⟨g12, 0, none⟩) 5 5 :: .pointer (some ⟨g5, 0, none⟩) :: .int .i64 m.k :: .bool (decide (m.k ∈ [1, 2, 3, 4, 5])) :: V8.l q19 (.pointer (some ⟨g5, 7, none⟩) :: .int .i64 m.ix :: .bool true :: .bool true :: .pointer (some ⟨g5, 7, none⟩) :: .int .i64 m.ix :: V8.l qz56 (undef :: undef :: undef :: .bool false :: U16f2 (undef :: []))))) (by subst hqz56; rfl) ?_
        exact hT23 false ⟨.pointer (some ⟨g5, 7, none⟩), .int .i64 m.ix, .bool true, .bool true, .pointer (some ⟨g5, 7, none⟩), .int .i64 m.ix, qz56.a, qz56.b⟩ ⟨qz56.c, qz56.d, qz56.e, qz56.f, qz56.g, qz56.h, undef, undef⟩ ⟨undef, .bool false, undef, undef, undef, undef, undef, undef⟩ _ ((HS.front 1 rfl).front 1 rfl) (by rw [decide_eq_true (show 0 ≤ m.ix by omega), decide_eq_true (show m.ix ≤ 64 by omega), decide_eq_false (show ¬ 0 ≤ m.tt by omega)]; simp)
      · skip
        refine c_region (fun ops58 hops57 => ?_)
        refine p_run _ (x_field (j := 7) _ _ rfl rfl Try.underlying33 rfl (by rfl) rfl) rfl ?_
        refine p_run _ (x_load (.int .i64 m.ix) rfl rfl (bkCell (HS.get (.tail _ (.head _))) 7 _ rfl) (by rfl)) rfl ?_
        refine p_run _ (x_cmp (k := .i64) (m := m.ix) (n := 0) .geq true rfl rfl rfl (show decide _ = true from decide_eq_true (by omega)) rfl) rfl ?_
        refine p_run _ (x_move (.bool true) rfl rfl) rfl ?_
        refine p_on rfl (by rw [hops57]; rfl) ?_
        refine p_run _ (x_field (j := 7) _ _ rfl rfl Try.underlying33 rfl (by rfl) rfl) rfl ?_
        refine p_on rfl (by rw [hops57]; rfl) ?_
        refine p_run _ (x_load (.int .i64 m.ix) rfl rfl (bkCell (HS.get (.tail _ (.head _))) 7 _ rfl) (by rfl)) rfl ?_
        refine p_on rfl (by rw [hops57]; rfl) ?_
        refine p_run (l' := (mgV m A c B d :: .pointer (some ⟨g5, 0, none⟩) :: .bool false :: .bool (decide (m.k ∈ [1, 2, 3, 4, 5])) :: .bool b4 :: undef :: .slice (some ⟨g12, 0, none⟩) 5 5 :: .pointer (some ⟨g5, 0, none⟩) :: .int .i64 m.k :: .bool (decide (m.k ∈ [1, 2, 3, 4, 5])) :: V8.l q19 (.pointer (some ⟨g5, 7, none⟩) :: .int .i64 m.ix :: .bool true :: .bool true :: .pointer (some ⟨g5, 7, none⟩) :: .int .i64 m.ix :: .bool true :: U16f2 (U8f2 (U4f2 ([])))))) _ (x_cmp (k := .i64) (m := m.ix) (n := 64) .leq true rfl rfl rfl (show decide _ = true from decide_eq_true (by omega)) rfl) rfl ?_
        refine p_run _ (x_pick true (.bool true) (.bool false) (.bool true) rfl rfl rfl rfl rfl) rfl ?_
        refine p_run _ (x_move (.bool true) rfl rfl) rfl ?_
        refine p_on rfl (by rw [hops57]; rfl) ?_
        refine p_run _ (x_field (j := 8) _ _ rfl rfl Try.underlying33 rfl (by rfl) rfl) rfl ?_
        refine p_on rfl (by rw [hops57]; rfl) ?_
        refine p_run _ (x_load (.int .i64 m.tt) rfl rfl (bkCell (HS.get (.tail _ (.head _))) 8 _ rfl) (by rfl)) rfl ?_
        refine p_on rfl (by rw [hops57]; rfl) ?_
        refine p_run _ (x_cmp (k := .i64) (m := m.tt) (n := 0) .geq true rfl rfl rfl (show decide _ = true from decide_eq_true (by omega)) rfl) rfl ?_
        refine p_run _ (x_pick true (.bool true) (.bool false) (.bool true) rfl rfl rfl rfl rfl) rfl ?_
        refine p_run (l' := (mgV m A c B d :: .pointer (some ⟨g5, 0, none⟩) :: .bool false :: .bool (decide (m.k ∈ [1, 2, 3, 4, 5])) :: .bool b4 :: undef :: .slice (some ⟨g12, 0, none⟩) 5 5 :: .pointer (some ⟨g5, 0, none⟩) :: .int .i64 m.k :: .bool (decide (m.k ∈ [1, 2, 3, 4, 5])) :: V8.l q19 (.pointer (some ⟨g5, 7, none⟩) :: .int .i64 m.ix :: .bool true :: .bool true :: .pointer (some ⟨g5, 7, none⟩) :: .int .i64 m.ix :: .bool true :: .bool true :: .bool true :: .pointer (some ⟨g5, 8, none⟩) :: .int .i64 m.tt :: .bool true :: .bool true :: .bool true :: U16f2 (U4f2 (undef :: []))))) _ (x_move (.bool true) rfl rfl) rfl ?_
        refine p_on rfl (by rw [hops57]; rfl) ?_
        refine p_run _ (x_field (j := 8) _ _ rfl rfl Try.underlying33 rfl (by rfl) rfl) rfl ?_
        refine p_on rfl (by rw [hops57]; rfl) ?_
        refine p_run _ (x_load (.int .i64 m.tt) rfl rfl (bkCell (HS.get (.tail _ (.head _))) 8 _ rfl) (by rfl)) rfl ?_
        refine p_on rfl (by rw [hops57]; rfl) ?_
        refine p_run _ (x_cmp (k := .i64) (m := m.tt) (n := 64) .leq false rfl rfl rfl (show decide _ = false from decide_eq_false (by omega)) rfl) rfl ?_
        refine p_run _ (x_pick true (.bool false) (.bool false) (.bool false) rfl rfl rfl rfl rfl) rfl ?_
        refine p_run _ (x_assign (.bool false) rfl rfl) rfl ?_
        clear hops57
        refine wpList_nil ?_
        obtain ⟨qz59, hqz59⟩ : ∃ q_ : V8, q_ = ⟨.bool true, .bool true, .bool true, .pointer (some ⟨g5, 8, none⟩), .int .i64 m.tt, .bool true, .bool true, .bool true⟩ := ⟨_, rfl⟩
        refine fr_at (l' := (mgV m A c B d :: .pointer (some ⟨g5, 0, none⟩) :: .bool false :: .bool (decide (m.k ∈ [1, 2, 3, 4, 5])) :: .bool b4 :: .bool false :: .slice (some ⟨g12, 0, none⟩) 5 5 :: .pointer (some ⟨g5, 0, none⟩) :: .int .i64 m.k :: .bool (decide (m.k ∈ [1, 2, 3, 4, 5])) :: V8.l q19 (.pointer (some ⟨g5, 7, none⟩) :: .int .i64 m.ix :: .bool true :: .bool true :: .pointer (some ⟨g5, 7, none⟩) :: .int .i64 m.ix :: V8.l qz59 (.pointer (some ⟨g5, 8, none⟩) :: .int .i64 m.tt :: .bool false :: .bool false :: U16f2 (undef :: []))))) (by subst hqz59; rfl) ?_
        exact hT23 false ⟨.pointer (some ⟨g5, 7, none⟩), .int .i64 m.ix, .bool true, .bool true, .pointer (some ⟨g5, 7, none⟩), .int .i64 m.ix, qz59.a, qz59.b⟩ ⟨qz59.c, qz59.d, qz59.e, qz59.f, qz59.g, qz59.h, .pointer (some ⟨g5, 8, none⟩), .int .i64 m.tt⟩ ⟨.bool false, .bool false, undef, undef, undef, undef, undef, undef⟩ _ ((HS.front 1 rfl).front 1 rfl) (by rw [decide_eq_true (show 0 ≤ m.ix by omega), decide_eq_true (show m.ix ≤ 64 by omega), decide_eq_true (show 0 ≤ m.tt by omega), decide_eq_false (show ¬ m.tt ≤ 64 by omega)]; simp)
      · skip
        refine c_region (fun ops61 hops60 => ?_)
        refine p_run _ (x_field (j := 7) _ _ rfl rfl Try.underlying33 rfl (by rfl) rfl) rfl ?_
        refine p_run _ (x_load (.int .i64 m.ix) rfl rfl (bkCell (HS.get (.tail _ (.head _))) 7 _ rfl) (by rfl)) rfl ?_
        refine p_run _ (x_cmp (k := .i64) (m := m.ix) (n := 0) .geq true rfl rfl rfl (show decide _ = true from decide_eq_true (by omega)) rfl) rfl ?_
        refine p_run _ (x_move (.bool true) rfl rfl) rfl ?_
        refine p_on rfl (by rw [hops60]; rfl) ?_
        refine p_run _ (x_field (j := 7) _ _ rfl rfl Try.underlying33 rfl (by rfl) rfl) rfl ?_
        refine p_on rfl (by rw [hops60]; rfl) ?_
        refine p_run _ (x_load (.int .i64 m.ix) rfl rfl (bkCell (HS.get (.tail _ (.head _))) 7 _ rfl) (by rfl)) rfl ?_
        refine p_on rfl (by rw [hops60]; rfl) ?_
        refine p_run (l' := (mgV m A c B d :: .pointer (some ⟨g5, 0, none⟩) :: .bool false :: .bool (decide (m.k ∈ [1, 2, 3, 4, 5])) :: .bool b4 :: undef :: .slice (some ⟨g12, 0, none⟩) 5 5 :: .pointer (some ⟨g5, 0, none⟩) :: .int .i64 m.k :: .bool (decide (m.k ∈ [1, 2, 3, 4, 5])) :: V8.l q19 (.pointer (some ⟨g5, 7, none⟩) :: .int .i64 m.ix :: .bool true :: .bool true :: .pointer (some ⟨g5, 7, none⟩) :: .int .i64 m.ix :: .bool true :: U16f2 (U8f2 (U4f2 ([])))))) _ (x_cmp (k := .i64) (m := m.ix) (n := 64) .leq true rfl rfl rfl (show decide _ = true from decide_eq_true (by omega)) rfl) rfl ?_
        refine p_run _ (x_pick true (.bool true) (.bool false) (.bool true) rfl rfl rfl rfl rfl) rfl ?_
        refine p_run _ (x_move (.bool true) rfl rfl) rfl ?_
        refine p_on rfl (by rw [hops60]; rfl) ?_
        refine p_run _ (x_field (j := 8) _ _ rfl rfl Try.underlying33 rfl (by rfl) rfl) rfl ?_
        refine p_on rfl (by rw [hops60]; rfl) ?_
        refine p_run _ (x_load (.int .i64 m.tt) rfl rfl (bkCell (HS.get (.tail _ (.head _))) 8 _ rfl) (by rfl)) rfl ?_
        refine p_on rfl (by rw [hops60]; rfl) ?_
        refine p_run _ (x_cmp (k := .i64) (m := m.tt) (n := 0) .geq true rfl rfl rfl (show decide _ = true from decide_eq_true (by omega)) rfl) rfl ?_
        refine p_run _ (x_pick true (.bool true) (.bool false) (.bool true) rfl rfl rfl rfl rfl) rfl ?_
        refine p_run (l' := (mgV m A c B d :: .pointer (some ⟨g5, 0, none⟩) :: .bool false :: .bool (decide (m.k ∈ [1, 2, 3, 4, 5])) :: .bool b4 :: undef :: .slice (some ⟨g12, 0, none⟩) 5 5 :: .pointer (some ⟨g5, 0, none⟩) :: .int .i64 m.k :: .bool (decide (m.k ∈ [1, 2, 3, 4, 5])) :: V8.l q19 (.pointer (some ⟨g5, 7, none⟩) :: .int .i64 m.ix :: .bool true :: .bool true :: .pointer (some ⟨g5, 7, none⟩) :: .int .i64 m.ix :: .bool true :: .bool true :: .bool true :: .pointer (some ⟨g5, 8, none⟩) :: .int .i64 m.tt :: .bool true :: .bool true :: .bool true :: U16f2 (U4f2 (undef :: []))))) _ (x_move (.bool true) rfl rfl) rfl ?_
        refine p_on rfl (by rw [hops60]; rfl) ?_
        refine p_run _ (x_field (j := 8) _ _ rfl rfl Try.underlying33 rfl (by rfl) rfl) rfl ?_
        refine p_on rfl (by rw [hops60]; rfl) ?_
        refine p_run _ (x_load (.int .i64 m.tt) rfl rfl (bkCell (HS.get (.tail _ (.head _))) 8 _ rfl) (by rfl)) rfl ?_
        refine p_on rfl (by rw [hops60]; rfl) ?_
        refine p_run _ (x_cmp (k := .i64) (m := m.tt) (n := 64) .leq true rfl rfl rfl (show decide _ = true from decide_eq_true (by omega)) rfl) rfl ?_
        refine p_run _ (x_pick true (.bool true) (.bool false) (.bool true) rfl rfl rfl rfl rfl) rfl ?_
        refine p_run _ (x_assign (.bool true) rfl rfl) rfl ?_
        clear hops60
        refine wpList_nil ?_
        obtain ⟨qz62, hqz62⟩ : ∃ q_ : V8, q_ = ⟨.bool true, .bool true, .bool true, .pointer (some ⟨g5, 8, none⟩), .int .i64 m.tt, .bool true, .bool true, .bool true⟩ := ⟨_, rfl⟩
        refine fr_at (l' := (mgV m A c B d :: .pointer (some ⟨g5, 0, none⟩) :: .bool false :: .bool (decide (m.k ∈ [1, 2, 3, 4, 5])) :: .bool b4 :: .bool true :: .slice (some ⟨g12, 0, none⟩) 5 5 :: .pointer (some ⟨g5, 0, none⟩) :: .int .i64 m.k :: .bool (decide (m.k ∈ [1, 2, 3, 4, 5])) :: V8.l q19 (.pointer (some ⟨g5, 7, none⟩) :: .int .i64 m.ix :: .bool true :: .bool true :: .pointer (some ⟨g5, 7, none⟩) :: .int .i64 m.ix :: V8.l qz62 (.pointer (some ⟨g5, 8, none⟩) :: .int .i64 m.tt :: .bool true :: .bool true :: U16f2 (undef :: []))))) (by subst hqz62; rfl) ?_
        exact hT23 true ⟨.pointer (some ⟨g5, 7, none⟩), .int .i64 m.ix, .bool true, .bool true, .pointer (some ⟨g5, 7, none⟩), .int .i64 m.ix, qz62.a, qz62.b⟩ ⟨qz62.c, qz62.d, qz62.e, qz62.f, qz62.g, qz62.h, .pointer (some ⟨g5, 8, none⟩), .int .i64 m.tt⟩ ⟨.bool true, .bool true, undef, undef, undef, undef, undef, undef⟩ _ ((HS.front 1 rfl).front 1 rfl) (by rw [decide_eq_true (show 0 ≤ m.ix by omega), decide_eq_true (show m.ix ≤ 64 by omega), decide_eq_true (show 0 ≤ m.tt by omega), decide_eq_true (show m.tt ≤ 64 by omega)]; rfl)
    clear hK17
    rcases (by omega : m.e < 1 ∨ 1048576 < m.e ∨ (1 ≤ m.e ∧ m.e ≤ 1048576)) with he | he | he
    · skip
      refine c_region (fun ops64 hops63 => ?_)
      refine p_run _ (x_field (j := 1) _ _ rfl rfl Try.underlying33 rfl (by rfl) rfl) rfl ?_
      refine p_run _ (x_load (.int .u32 m.e) rfl rfl (bkCell (HS.get (.tail _ (.head _))) 1 _ rfl) (by rfl)) rfl ?_
      refine p_run _ (x_cmp (k := .u32) (m := m.e) (n := 1) .geq false rfl rfl rfl (show decide _ = false from decide_eq_false (by omega)) rfl) rfl ?_
      refine p_run _ (x_move (.bool false) rfl rfl) rfl ?_
      refine p_off (by rw [hops63]; rfl) rfl ?_
      refine p_off (by rw [hops63]; rfl) rfl ?_
      refine p_off (l' := (mgV m A c B d :: .pointer (some ⟨g5, 0, none⟩) :: .bool false :: .bool (decide (m.k ∈ [1, 2, 3, 4, 5])) :: undef :: undef :: .slice (some ⟨g12, 0, none⟩) 5 5 :: .pointer (some ⟨g5, 0, none⟩) :: .int .i64 m.k :: .bool (decide (m.k ∈ [1, 2, 3, 4, 5])) :: .pointer (some ⟨g5, 1, none⟩) :: .int .u32 m.e :: .bool false :: .bool false :: U32f2 (U4f2 (undef :: undef :: undef :: [])))) (by rw [hops63]; rfl) rfl ?_
      refine p_run _ (x_pick false (undef) (.bool false) (.bool false) rfl rfl rfl rfl rfl) rfl ?_
      refine p_run _ (x_assign (.bool false) rfl rfl) rfl ?_
      clear hops63
      refine wpList_nil ?_
      refine fr_at (l' := (mgV m A c B d :: .pointer (some ⟨g5, 0, none⟩) :: .bool false :: .bool (decide (m.k ∈ [1, 2, 3, 4, 5])) :: .bool false :: undef :: .slice (some ⟨g12, 0, none⟩) 5 5 :: .pointer (some ⟨g5, 0, none⟩) :: .int .i64 m.k :: .bool (decide (m.k ∈ [1, 2, 3, 4, 5])) :: .pointer (some ⟨g5, 1, none⟩) :: .int .u32 m.e :: .bool false :: .bool false :: undef :: undef :: undef :: .bool false :: U32f2 (undef :: undef :: undef :: []))) rfl ?_
      exact hT18 false ⟨.pointer (some ⟨g5, 1, none⟩), .int .u32 m.e, .bool false, .bool false, undef, undef, undef, .bool false⟩ _ ((HS.front 1 rfl).front 1 rfl) (by rw [decide_eq_false (show ¬ 1 ≤ m.e by omega)]; rfl)
    · skip
      refine c_region (fun ops66 hops65 => ?_)
      refine p_run _ (x_field (j := 1) _ _ rfl rfl Try.underlying33 rfl (by rfl) rfl) rfl ?_
      refine p_run _ (x_load (.int .u32 m.e) rfl rfl (bkCell (HS.get (.tail _ (.head _))) 1 _ rfl) (by rfl)) rfl ?_
      refine p_run _ (x_cmp (k := .u32) (m := m.e) (n := 1) .geq true rfl rfl rfl (show decide _ = true from decide_eq_true (by omega)) rfl) rfl ?_
      refine p_run _ (x_move (.bool true) rfl rfl) rfl ?_
      refine p_on rfl (by rw [hops65]; rfl) ?_
      refine p_run _ (x_field (j := 1) _ _ rfl rfl Try.underlying33 rfl (by rfl) rfl) rfl ?_
      refine p_on rfl (by rw [hops65]; rfl) ?_
      refine p_run _ (x_load (.int .u32 m.e) rfl rfl (bkCell (HS.get (.tail _ (.head _))) 1 _ rfl) (by rfl)) rfl ?_
      refine p_on rfl (by rw [hops65]; rfl) ?_
      refine p_run (l' := (mgV m A c B d :: .pointer (some ⟨g5, 0, none⟩) :: .bool false :: .bool (decide (m.k ∈ [1, 2, 3, 4, 5])) :: undef :: undef :: .slice (some ⟨g12, 0, none⟩) 5 5 :: .pointer (some ⟨g5, 0, none⟩) :: .int .i64 m.k :: .bool (decide (m.k ∈ [1, 2, 3, 4, 5])) :: .pointer (some ⟨g5, 1, none⟩) :: .int .u32 m.e :: .bool true :: .bool true :: .pointer (some ⟨g5, 1, none⟩) :: .int .u32 m.e :: .bool false :: U32f2 (U4f2 ([])))) _ (x_cmp (k := .u32) (m := m.e) (n := 1048576) .leq false rfl rfl rfl (show decide _ = false from decide_eq_false (by omega)) rfl) rfl ?_
      refine p_run _ (x_pick true (.bool false) (.bool false) (.bool false) rfl rfl rfl rfl rfl) rfl ?_
      refine p_run _ (x_assign (.bool false) rfl rfl) rfl ?_
      clear hops65
      refine wpList_nil ?_
      refine fr_at (l' := (mgV m A c B d :: .pointer (some ⟨g5, 0, none⟩) :: .bool false :: .bool (decide (m.k ∈ [1, 2, 3, 4, 5])) :: .bool false :: undef :: .slice (some ⟨g12, 0, none⟩) 5 5 :: .pointer (some ⟨g5, 0, none⟩) :: .int .i64 m.k :: .bool (decide (m.k ∈ [1, 2, 3, 4, 5])) :: .pointer (some ⟨g5, 1, none⟩) :: .int .u32 m.e :: .bool true :: .bool true :: .pointer (some ⟨g5, 1, none⟩) :: .int .u32 m.e :: .bool false :: .bool false :: U32f2 (undef :: undef :: undef :: []))) rfl ?_
      exact hT18 false ⟨.pointer (some ⟨g5, 1, none⟩), .int .u32 m.e, .bool true, .bool true, .pointer (some ⟨g5, 1, none⟩), .int .u32 m.e, .bool false, .bool false⟩ _ ((HS.front 1 rfl).front 1 rfl) (by rw [decide_eq_false (show ¬ m.e ≤ 1048576 by omega), Bool.and_false])
    · skip
      refine c_region (fun ops68 hops67 => ?_)
      refine p_run _ (x_field (j := 1) _ _ rfl rfl Try.underlying33 rfl (by rfl) rfl) rfl ?_
      refine p_run _ (x_load (.int .u32 m.e) rfl rfl (bkCell (HS.get (.tail _ (.head _))) 1 _ rfl) (by rfl)) rfl ?_
      refine p_run _ (x_cmp (k := .u32) (m := m.e) (n := 1) .geq true rfl rfl rfl (show decide _ = true from decide_eq_true (by omega)) rfl) rfl ?_
      refine p_run _ (x_move (.bool true) rfl rfl) rfl ?_
      refine p_on rfl (by rw [hops67]; rfl) ?_
      refine p_run _ (x_field (j := 1) _ _ rfl rfl Try.underlying33 rfl (by rfl) rfl) rfl ?_
      refine p_on rfl (by rw [hops67]; rfl) ?_
      refine p_run _ (x_load (.int .u32 m.e) rfl rfl (bkCell (HS.get (.tail _ (.head _))) 1 _ rfl) (by rfl)) rfl ?_
      refine p_on rfl (by rw [hops67]; rfl) ?_
      refine p_run (l' := (mgV m A c B d :: .pointer (some ⟨g5, 0, none⟩) :: .bool false :: .bool (decide (m.k ∈ [1, 2, 3, 4, 5])) :: undef :: undef :: .slice (some ⟨g12, 0, none⟩) 5 5 :: .pointer (some ⟨g5, 0, none⟩) :: .int .i64 m.k :: .bool (decide (m.k ∈ [1, 2, 3, 4, 5])) :: .pointer (some ⟨g5, 1, none⟩) :: .int .u32 m.e :: .bool true :: .bool true :: .pointer (some ⟨g5, 1, none⟩) :: .int .u32 m.e :: .bool true :: U32f2 (U4f2 ([])))) _ (x_cmp (k := .u32) (m := m.e) (n := 1048576) .leq true rfl rfl rfl (show decide _ = true from decide_eq_true (by omega)) rfl) rfl ?_
      refine p_run _ (x_pick true (.bool true) (.bool false) (.bool true) rfl rfl rfl rfl rfl) rfl ?_
      refine p_run _ (x_assign (.bool true) rfl rfl) rfl ?_
      clear hops67
      refine wpList_nil ?_
      refine fr_at (l' := (mgV m A c B d :: .pointer (some ⟨g5, 0, none⟩) :: .bool false :: .bool (decide (m.k ∈ [1, 2, 3, 4, 5])) :: .bool true :: undef :: .slice (some ⟨g12, 0, none⟩) 5 5 :: .pointer (some ⟨g5, 0, none⟩) :: .int .i64 m.k :: .bool (decide (m.k ∈ [1, 2, 3, 4, 5])) :: .pointer (some ⟨g5, 1, none⟩) :: .int .u32 m.e :: .bool true :: .bool true :: .pointer (some ⟨g5, 1, none⟩) :: .int .u32 m.e :: .bool true :: .bool true :: U32f2 (undef :: undef :: undef :: []))) rfl ?_
      exact hT18 true ⟨.pointer (some ⟨g5, 1, none⟩), .int .u32 m.e, .bool true, .bool true, .pointer (some ⟨g5, 1, none⟩), .int .u32 m.e, .bool true, .bool true⟩ _ ((HS.front 1 rfl).front 1 rfl) (by rw [decide_eq_true (show 1 ≤ m.e by omega), decide_eq_true (show m.e ≤ 1048576 by omega)]; rfl)
theorem len_ne {n : Nat} (h : ¬ n = 0) : cmpB .eql (n : Int) 0 = false := by simp [cmpB]; omega
theorem int_ne {a b : Int} (h : ¬ a = b) : cmpB .eql a b = false := by simp [cmpB, h]
theorem mg_split (m : Mg) : (nmOk m = false) ∨ (nmOk m = true ∧ 4 < m.its.length) ∨ (nmOk m = true ∧ m.its.length ≤ 4 ∧ 8 < m.hvs.length) ∨ (nmOk m = true ∧ m.its.length ≤ 4 ∧ m.hvs.length ≤ 8) := by
  rcases Bool.eq_false_or_eq_true (nmOk m) with h | h
  · rcases Nat.lt_or_ge 4 m.its.length with h2 | h2
    · exact .inr (.inl ⟨h, h2⟩)
    · rcases Nat.lt_or_ge 8 m.hvs.length with h3 | h3
      · exact .inr (.inr (.inl ⟨h, h2, h3⟩))
      · exact .inr (.inr (.inr ⟨h, h2, h3⟩))
  · exact .inl h
theorem mg_split2 (m : Mg) : (m.its.all itOk = false) ∨ (m.its.all itOk = true ∧ m.hvs.all hvOk = false) ∨ (m.its.all itOk = true ∧ m.hvs.all hvOk = true ∧ ¬ m.its.length = 0 ∧ ¬ m.k = 3) ∨
    (m.its.all itOk = true ∧ m.hvs.all hvOk = true ∧ m.its.length = 0 ∧ m.hvs.length = 0) ∨ (m.its.all itOk = true ∧ m.hvs.all hvOk = true ∧ m.its.length = 0 ∧ ¬ m.hvs.length = 0) ∨
    (m.its.all itOk = true ∧ m.hvs.all hvOk = true ∧ (¬ m.its.length = 0 ∧ m.k = 3) ∧ m.hvs.length = 0) ∨ (m.its.all itOk = true ∧ m.hvs.all hvOk = true ∧ (¬ m.its.length = 0 ∧ m.k = 3) ∧ ¬ m.hvs.length = 0) := by
  rcases Bool.eq_false_or_eq_true (m.its.all itOk) with h | h
  · rcases Bool.eq_false_or_eq_true (m.hvs.all hvOk) with g | g
    · by_cases h1 : m.its.length = 0
      · by_cases h2 : m.hvs.length = 0
        · exact .inr (.inr (.inr (.inl ⟨h, g, h1, h2⟩)))
        · exact .inr (.inr (.inr (.inr (.inl ⟨h, g, h1, h2⟩))))
      · by_cases h3 : m.k = 3
        · by_cases h2 : m.hvs.length = 0
          · exact .inr (.inr (.inr (.inr (.inr (.inl ⟨h, g, ⟨h1, h3⟩, h2⟩)))))
          · exact .inr (.inr (.inr (.inr (.inr (.inr ⟨h, g, ⟨h1, h3⟩, h2⟩)))))
        · exact .inr (.inr (.inl ⟨h, g, h1, h3⟩))
    · exact .inr (.inl ⟨h, g⟩)
  · exact .inl h
set_option maxRecDepth 10000 in
set_option maxHeartbeats 4000000 in
theorem fright_any (w : World) (m : Mg) (A : Option Addr) (c : Nat) (hA : kIt.C w A m.its.length m.its) (B : Option Addr) (d : Nat) (hB : kHv.C w B m.hvs.length m.hvs) (hl : m.its.length ≤ 1000) (hl2 : m.hvs.length ≤ 1000) : Calls Try.prog 14 #[mgV m A c B d] w fun e w' => e = .returned (.bool (mgOk m)) ∧ Below w.heap.size w w' := by
  have HS := St.empty w
  rcases mg_split m with hn | ⟨hn, hi4⟩ | ⟨hn, hi4, hh8⟩ | ⟨hn, hi4, hh8⟩
  · skip
    refine c_enter Try.func14 rfl 54 rfl (mgV m A c B d :: U32f2 (U16f2 (U4f2 (undef :: [])))) rfl ?_
    refine wp_seq_k (fun K1 hK2 => ?_)
    refine c_region (fun ops4 hops3 => ?_)
    clear hops3
    refine St.wBox HS (cs := [.int .i64 m.k, .int .u32 m.e, .int .u64 m.s, .int .u32 m.te, .int .u32 m.ts, .int .u32 m.be, .int .u32 m.bs, .int .i64 m.ix, .int .i64 m.tt, .int .u32 m.tk, .slice A m.its.length c, .slice B m.hvs.length d]) (mgV m A c B d) rfl rfl ?_
    clear HS
    intro g5 w6 hg7 HS
    refine p_run _ (x_assign (.bool false) rfl rfl) rfl ?_
    refine wpList_nil ?_
    refine hK2 _ _ ?_
    refine wp_seq_k (fun K8 hK9 => ?_)
    refine wp_seq_k (fun K10 hK11 => ?_)
    refine c_region (fun ops13 hops12 => ?_)
    refine p_run _ (x_loads [.int .i64 m.k, .int .u32 m.e, .int .u64 m.s, .int .u32 m.te, .int .u32 m.ts, .int .u32 m.be, .int .u32 m.bs, .int .i64 m.ix, .int .i64 m.tt, .int .u32 m.tk, .slice A m.its.length c, .slice B m.hvs.length d] 12 rfl rfl (bkCells (HS.get (.head _)) 0 _ rfl) (by rfl) (by kernel_rfl) rfl) rfl ?_
    refine w_call [mgV m A c B d] Try.func29 (by kernel_rfl) (by rfl) rfl ?_
    refine (numbers_any _ m A c B d).mono ?_
    rintro e w14 ⟨he_, hb_⟩
    rw [hn] at he_
    subst he_
    replace HS := HS.here hb_
    clear hb_
    refine ⟨_, rfl, ?_⟩
    refine p_run _ (x_not false rfl rfl) rfl ?_
    refine p_run _ (x_move (.bool true) rfl rfl) rfl ?_
    refine p_off (l' := (mgV m A c B d :: .pointer (some ⟨g5, 0, none⟩) :: .bool false :: undef :: undef :: mgV m A c B d :: .bool false :: .bool true :: .bool true :: U32f2 (U8f2 (U4f2 (undef :: []))))) (by rw [hops12]; rfl) rfl ?_
    refine p_off (by rw [hops12]; rfl) rfl ?_
    refine p_off (by rw [hops12]; rfl) rfl ?_
    refine p_off (by rw [hops12]; rfl) rfl ?_
    refine p_run _ (x_pick true (.bool true) (undef) (.bool true) rfl rfl rfl rfl rfl) rfl ?_
    refine p_run _ (x_move (.bool true) rfl rfl) rfl ?_
    refine p_off (by rw [hops12]; rfl) rfl ?_
    refine p_off (l' := (mgV m A c B d :: .pointer (some ⟨g5, 0, none⟩) :: .bool false :: undef :: undef :: mgV m A c B d :: .bool false :: .bool true :: .bool true :: U4f2 (.bool true :: .bool true :: U32f2 (U4f2 (undef :: undef :: undef :: []))))) (by rw [hops12]; rfl) rfl ?_
    refine p_off (by rw [hops12]; rfl) rfl ?_
    refine p_off (by rw [hops12]; rfl) rfl ?_
    refine p_run _ (x_pick true (.bool true) (undef) (.bool true) rfl rfl rfl rfl rfl) rfl ?_
    clear hops12
    refine wpList_nil ?_
    refine hK11 _ _ ?_
    refine c_true rfl ?_
    refine wp_seq_k (fun K15 hK16 => ?_)
    refine c_region (fun ops18 hops17 => ?_)
    clear hops17
    refine p_run _ (x_assign (.bool false) rfl rfl) rfl ?_
    refine wpList_nil ?_
    refine hK16 _ _ ?_
    refine wp_ret ?_
    try simp only [Exit.inBlock, Exit.then]
    refine c_ret (.bool false) (r_tmp rfl rfl) ?_
    have e1 : mgOk m = false := by
      unfold mgOk
      rw [hn]; rfl
    rw [e1]
    exact ⟨rfl, HS.belowOf⟩
  · skip
    refine c_enter Try.func14 rfl 54 rfl (mgV m A c B d :: U32f2 (U16f2 (U4f2 (undef :: [])))) rfl ?_
    refine wp_seq_k (fun K1 hK2 => ?_)
    refine c_region (fun ops4 hops3 => ?_)
    clear hops3
    refine St.wBox HS (cs := [.int .i64 m.k, .int .u32 m.e, .int .u64 m.s, .int .u32 m.te, .int .u32 m.ts, .int .u32 m.be, .int .u32 m.bs, .int .i64 m.ix, .int .i64 m.tt, .int .u32 m.tk, .slice A m.its.length c, .slice B m.hvs.length d]) (mgV m A c B d) rfl rfl ?_
    clear HS
    intro g5 w6 hg7 HS
    refine p_run _ (x_assign (.bool false) rfl rfl) rfl ?_
    refine wpList_nil ?_
    refine hK2 _ _ ?_
    refine wp_seq_k (fun K8 hK9 => ?_)
    refine wp_seq_k (fun K10 hK11 => ?_)
    refine c_region (fun ops13 hops12 => ?_)
    refine p_run _ (x_loads [.int .i64 m.k, .int .u32 m.e, .int .u64 m.s, .int .u32 m.te, .int .u32 m.ts, .int .u32 m.be, .int .u32 m.bs, .int .i64 m.ix, .int .i64 m.tt, .int .u32 m.tk, .slice A m.its.length c, .slice B m.hvs.length d] 12 rfl rfl (bkCells (HS.get (.head _)) 0 _ rfl) (by rfl) (by kernel_rfl) rfl) rfl ?_
    refine w_call [mgV m A c B d] Try.func29 (by kernel_rfl) (by rfl) rfl ?_
    refine (numbers_any _ m A c B d).mono ?_
    rintro e w14 ⟨he_, hb_⟩
    rw [hn] at he_
    subst he_
    replace HS := HS.here hb_
    clear hb_
    refine ⟨_, rfl, ?_⟩
    refine p_run _ (x_not true rfl rfl) rfl ?_
    refine p_run _ (x_move (.bool false) rfl rfl) rfl ?_
    refine p_on rfl (by rw [hops12]; rfl) ?_
    refine p_run (l' := (mgV m A c B d :: .pointer (some ⟨g5, 0, none⟩) :: .bool false :: undef :: undef :: mgV m A c B d :: .bool true :: .bool false :: .bool false :: .pointer (some ⟨g5, 10, none⟩) :: U32f2 (U8f2 (U4f2 ([]))))) _ (x_field (j := 10) _ _ rfl rfl Try.underlying33 rfl (by rfl) rfl) rfl ?_
    refine p_on rfl (by rw [hops12]; rfl) ?_
    refine p_run _ (x_load (.slice A m.its.length c) rfl rfl (bkCell (HS.get (.head _)) 10 _ rfl) (by rfl)) rfl ?_
    refine p_on rfl (by rw [hops12]; rfl) ?_
    refine p_run _ (x_len rfl rfl Try.underlying30) rfl ?_
    refine p_on rfl (by rw [hops12]; rfl) ?_
    refine p_run _ (x_cmp (k := .i64) (m := (m.its.length : Int)) (n := 4) .gtr true rfl rfl rfl (show decide _ = true from decide_eq_true (by omega)) rfl) rfl ?_
    refine p_run _ (x_pick false (.bool true) (.bool true) (.bool true) rfl rfl rfl rfl rfl) rfl ?_
    refine p_run _ (x_move (.bool true) rfl rfl) rfl ?_
    refine p_off (by rw [hops12]; rfl) rfl ?_
    refine p_off (l' := (mgV m A c B d :: .pointer (some ⟨g5, 0, none⟩) :: .bool false :: undef :: undef :: mgV m A c B d :: .bool true :: .bool false :: .bool false :: .pointer (some ⟨g5, 10, none⟩) :: .slice A m.its.length c :: .int .i64 (m.its.length : Int) :: .bool true :: .bool true :: .bool true :: U32f2 (U4f2 (undef :: undef :: undef :: [])))) (by rw [hops12]; rfl) rfl ?_
    refine p_off (by rw [hops12]; rfl) rfl ?_
    refine p_off (by rw [hops12]; rfl) rfl ?_
    refine p_run _ (x_pick true (.bool true) (undef) (.bool true) rfl rfl rfl rfl rfl) rfl ?_
    clear hops12
    refine wpList_nil ?_
    refine hK11 _ _ ?_
    refine c_true rfl ?_
    refine wp_seq_k (fun K15 hK16 => ?_)
    refine c_region (fun ops18 hops17 => ?_)
    clear hops17
    refine p_run _ (x_assign (.bool false) rfl rfl) rfl ?_
    refine wpList_nil ?_
    refine hK16 _ _ ?_
    refine wp_ret ?_
    try simp only [Exit.inBlock, Exit.then]
    refine c_ret (.bool false) (r_tmp rfl rfl) ?_
    have e1 : mgOk m = false := by
      unfold mgOk
      rw [hn, decide_eq_false (show ¬ m.its.length ≤ 4 by omega)]; rfl
    rw [e1]
    exact ⟨rfl, HS.belowOf⟩
  · skip
    refine c_enter Try.func14 rfl 54 rfl (mgV m A c B d :: U32f2 (U16f2 (U4f2 (undef :: [])))) rfl ?_
    refine wp_seq_k (fun K1 hK2 => ?_)
    refine c_region (fun ops4 hops3 => ?_)
    clear hops3
    refine St.wBox HS (cs := [.int .i64 m.k, .int .u32 m.e, .int .u64 m.s, .int .u32 m.te, .int .u32 m.ts, .int .u32 m.be, .int .u32 m.bs, .int .i64 m.ix, .int .i64 m.tt, .int .u32 m.tk, .slice A m.its.length c, .slice B m.hvs.length d]) (mgV m A c B d) rfl rfl ?_
    clear HS
    intro g5 w6 hg7 HS
    refine p_run _ (x_assign (.bool false) rfl rfl) rfl ?_
    refine wpList_nil ?_
    refine hK2 _ _ ?_
    refine wp_seq_k (fun K8 hK9 => ?_)
    refine wp_seq_k (fun K10 hK11 => ?_)
    refine c_region (fun ops13 hops12 => ?_)
    refine p_run _ (x_loads [.int .i64 m.k, .int .u32 m.e, .int .u64 m.s, .int .u32 m.te, .int .u32 m.ts, .int .u32 m.be, .int .u32 m.bs, .int .i64 m.ix, .int .i64 m.tt, .int .u32 m.tk, .slice A m.its.length c, .slice B m.hvs.length d] 12 rfl rfl (bkCells (HS.get (.head _)) 0 _ rfl) (by rfl) (by kernel_rfl) rfl) rfl ?_
    refine w_call [mgV m A c B d] Try.func29 (by kernel_rfl) (by rfl) rfl ?_
    refine (numbers_any _ m A c B d).mono ?_
    rintro e w14 ⟨he_, hb_⟩
    rw [hn] at he_
    subst he_
    replace HS := HS.here hb_
    clear hb_
    refine ⟨_, rfl, ?_⟩
    refine p_run _ (x_not true rfl rfl) rfl ?_
    refine p_run _ (x_move (.bool false) rfl rfl) rfl ?_
    refine p_on rfl (by rw [hops12]; rfl) ?_
    refine p_run (l' := (mgV m A c B d :: .pointer (some ⟨g5, 0, none⟩) :: .bool false :: undef :: undef :: mgV m A c B d :: .bool true :: .bool false :: .bool false :: .pointer (some ⟨g5, 10, none⟩) :: U32f2 (U8f2 (U4f2 ([]))))) _ (x_field (j := 10) _ _ rfl rfl Try.underlying33 rfl (by rfl) rfl) rfl ?_
    refine p_on rfl (by rw [hops12]; rfl) ?_
    refine p_run _ (x_load (.slice A m.its.length c) rfl rfl (bkCell (HS.get (.head _)) 10 _ rfl) (by rfl)) rfl ?_
    refine p_on rfl (by rw [hops12]; rfl) ?_
    refine p_run _ (x_len rfl rfl Try.underlying30) rfl ?_
    refine p_on rfl (by rw [hops12]; rfl) ?_
    refine p_run _ (x_cmp (k := .i64) (m := (m.its.length : Int)) (n := 4) .gtr false rfl rfl rfl (show decide _ = false from decide_eq_false (by omega)) rfl) rfl ?_
    refine p_run _ (x_pick false (.bool true) (.bool false) (.bool false) rfl rfl rfl rfl rfl) rfl ?_
    refine p_run _ (x_move (.bool false) rfl rfl) rfl ?_
    refine p_on rfl (by rw [hops12]; rfl) ?_
    refine p_run _ (x_field (j := 11) _ _ rfl rfl Try.underlying33 rfl (by rfl) rfl) rfl ?_
    refine p_on rfl (by rw [hops12]; rfl) ?_
    refine p_run (l' := (mgV m A c B d :: .pointer (some ⟨g5, 0, none⟩) :: .bool false :: undef :: undef :: mgV m A c B d :: .bool true :: .bool false :: .bool false :: .pointer (some ⟨g5, 10, none⟩) :: .slice A m.its.length c :: .int .i64 (m.its.length : Int) :: .bool false :: .bool false :: .bool false :: .pointer (some ⟨g5, 11, none⟩) :: .slice B m.hvs.length d :: U32f2 (U4f2 (undef :: [])))) _ (x_load (.slice B m.hvs.length d) rfl rfl (bkCell (HS.get (.head _)) 11 _ rfl) (by rfl)) rfl ?_
    refine p_on rfl (by rw [hops12]; rfl) ?_
    refine p_run _ (x_len rfl rfl Try.underlying31) rfl ?_
    refine p_on rfl (by rw [hops12]; rfl) ?_
    refine p_run _ (x_cmp (k := .i64) (m := (m.hvs.length : Int)) (n := 8) .gtr true rfl rfl rfl (show decide _ = true from decide_eq_true (by omega)) rfl) rfl ?_
    refine p_run _ (x_pick false (.bool true) (.bool true) (.bool true) rfl rfl rfl rfl rfl) rfl ?_
    clear hops12
    refine wpList_nil ?_
    refine hK11 _ _ ?_
    refine c_true rfl ?_
    refine wp_seq_k (fun K15 hK16 => ?_)
    refine c_region (fun ops18 hops17 => ?_)
    clear hops17
    refine p_run _ (x_assign (.bool false) rfl rfl) rfl ?_
    refine wpList_nil ?_
    refine hK16 _ _ ?_
    refine wp_ret ?_
    try simp only [Exit.inBlock, Exit.then]
    refine c_ret (.bool false) (r_tmp rfl rfl) ?_
    have e1 : mgOk m = false := by
      unfold mgOk
      rw [hn, decide_eq_true hi4, decide_eq_false (show ¬ m.hvs.length ≤ 8 by omega)]; rfl
    rw [e1]
    exact ⟨rfl, HS.belowOf⟩
  · skip
    refine c_enter Try.func14 rfl 54 rfl (mgV m A c B d :: U32f2 (U16f2 (U4f2 (undef :: [])))) rfl ?_
    refine wp_seq_k (fun K1 hK2 => ?_)
    refine c_region (fun ops4 hops3 => ?_)
    clear hops3
    refine St.wBox HS (cs := [.int .i64 m.k, .int .u32 m.e, .int .u64 m.s, .int .u32 m.te, .int .u32 m.ts, .int .u32 m.be, .int .u32 m.bs, .int .i64 m.ix, .int .i64 m.tt, .int .u32 m.tk, .slice A m.its.length c, .slice B m.hvs.length d]) (mgV m A c B d) rfl rfl ?_
    clear HS
    intro g5 w6 hg7 HS
    refine p_run _ (x_assign (.bool false) rfl rfl) rfl ?_
    refine wpList_nil ?_
    refine hK2 _ _ ?_
    refine wp_seq_k (fun K8 hK9 => ?_)
    refine wp_seq_k (fun K10 hK11 => ?_)
    refine c_region (fun ops13 hops12 => ?_)
    refine p_run _ (x_loads [.int .i64 m.k, .int .u32 m.e, .int .u64 m.s, .int .u32 m.te, .int .u32 m.ts, .int .u32 m.be, .int .u32 m.bs, .int .i64 m.ix, .int .i64 m.tt, .int .u32 m.tk, .slice A m.its.length c, .slice B m.hvs.length d] 12 rfl rfl (bkCells (HS.get (.head _)) 0 _ rfl) (by rfl) (by kernel_rfl) rfl) rfl ?_
    refine w_call [mgV m A c B d] Try.func29 (by kernel_rfl) (by rfl) rfl ?_
    refine (numbers_any _ m A c B d).mono ?_
    rintro e w14 ⟨he_, hb_⟩
    rw [hn] at he_
    subst he_
    replace HS := HS.here hb_
    clear hb_
    refine ⟨_, rfl, ?_⟩
    refine p_run _ (x_not true rfl rfl) rfl ?_
    refine p_run _ (x_move (.bool false) rfl rfl) rfl ?_
    refine p_on rfl (by rw [hops12]; rfl) ?_
    refine p_run (l' := (mgV m A c B d :: .pointer (some ⟨g5, 0, none⟩) :: .bool false :: undef :: undef :: mgV m A c B d :: .bool true :: .bool false :: .bool false :: .pointer (some ⟨g5, 10, none⟩) :: U32f2 (U8f2 (U4f2 ([]))))) _ (x_field (j := 10) _ _ rfl rfl Try.underlying33 rfl (by rfl) rfl) rfl ?_
    refine p_on rfl (by rw [hops12]; rfl) ?_
    refine p_run _ (x_load (.slice A m.its.length c) rfl rfl (bkCell (HS.get (.head _)) 10 _ rfl) (by rfl)) rfl ?_
    refine p_on rfl (by rw [hops12]; rfl) ?_
    refine p_run _ (x_len rfl rfl Try.underlying30) rfl ?_
    refine p_on rfl (by rw [hops12]; rfl) ?_
    refine p_run _ (x_cmp (k := .i64) (m := (m.its.length : Int)) (n := 4) .gtr false rfl rfl rfl (show decide _ = false from decide_eq_false (by omega)) rfl) rfl ?_
    refine p_run _ (x_pick false (.bool true) (.bool false) (.bool false) rfl rfl rfl rfl rfl) rfl ?_
    refine p_run _ (x_move (.bool false) rfl rfl) rfl ?_
    refine p_on rfl (by rw [hops12]; rfl) ?_
    refine p_run _ (x_field (j := 11) _ _ rfl rfl Try.underlying33 rfl (by rfl) rfl) rfl ?_
    refine p_on rfl (by rw [hops12]; rfl) ?_
    refine p_run (l' := (mgV m A c B d :: .pointer (some ⟨g5, 0, none⟩) :: .bool false :: undef :: undef :: mgV m A c B d :: .bool true :: .bool false :: .bool false :: .pointer (some ⟨g5, 10, none⟩) :: .slice A m.its.length c :: .int .i64 (m.its.length : Int) :: .bool false :: .bool false :: .bool false :: .pointer (some ⟨g5, 11, none⟩) :: .slice B m.hvs.length d :: U32f2 (U4f2 (undef :: [])))) _ (x_load (.slice B m.hvs.length d) rfl rfl (bkCell (HS.get (.head _)) 11 _ rfl) (by rfl)) rfl ?_
    refine p_on rfl (by rw [hops12]; rfl) ?_
    refine p_run _ (x_len rfl rfl Try.underlying31) rfl ?_
    refine p_on rfl (by rw [hops12]; rfl) ?_
    refine p_run _ (x_cmp (k := .i64) (m := (m.hvs.length : Int)) (n := 8) .gtr false rfl rfl rfl (show decide _ = false from decide_eq_false (by omega)) rfl) rfl ?_
    refine p_run _ (x_pick false (.bool true) (.bool false) (.bool false) rfl rfl rfl rfl rfl) rfl ?_
    clear hops12
    refine wpList_nil ?_
    refine hK11 _ _ ?_
    refine c_false rfl ?_
    refine wp_skip ?_
    refine hK9 _ _ ?_
    refine wp_seq_k (fun K15 hK16 => ?_)
    rcases mg_split2 m with hI | ⟨hI, hH⟩ | ⟨hI, hH, h1⟩ | ⟨hI, hH, h1, h2⟩ | ⟨hI, hH, h1, h2⟩ | ⟨hI, hH, h1, h2⟩ | ⟨hI, hH, h1, h2⟩
    · skip
      refine c_region (fun ops18 hops17 => ?_)
      clear hops17
      refine p_run _ (x_field (j := 10) _ _ rfl rfl Try.underlying33 rfl (by rfl) rfl) rfl ?_
      refine p_run _ (x_load (.slice A m.its.length c) rfl rfl (bkCell (HS.get (.head _)) 10 _ rfl) (by rfl)) rfl ?_
      refine w_call [.slice A m.its.length c, .func (.func 31) #[] [].toArray] Try.func30 (by kernel_rfl) (by rfl) rfl ?_
      refine (conI_any _ A c m.its (Kd.C_below hA HS.belowOf) hl).mono ?_
      rintro e w19 ⟨he_, hb_⟩
      rw [hI] at he_
      subst he_
      replace HS := HS.here hb_
      clear hb_
      refine ⟨_, rfl, ?_⟩
      refine p_run (l' := (mgV m A c B d :: .pointer (some ⟨g5, 0, none⟩) :: .bool false :: undef :: undef :: mgV m A c B d :: .bool true :: .bool false :: .bool false :: .pointer (some ⟨g5, 10, none⟩) :: .slice A m.its.length c :: .int .i64 (m.its.length : Int) :: .bool false :: .bool false :: .bool false :: .pointer (some ⟨g5, 11, none⟩) :: .slice B m.hvs.length d :: .int .i64 (m.hvs.length : Int) :: .bool false :: .bool false :: .pointer (some ⟨g5, 10, none⟩) :: .slice A m.its.length c :: .bool true :: .bool false :: U16f2 (U8f2 (U4f2 (undef :: undef :: []))))) _ (x_not true rfl rfl) rfl ?_
      refine p_run _ (x_assign (.bool false) rfl rfl) rfl ?_
      refine wpList_nil ?_
      refine hK16 _ _ ?_
      refine wp_seq_k (fun K20 hK21 => ?_)
      refine c_region (fun ops23 hops22 => ?_)
      clear hops22
      refine p_run _ (x_field (j := 11) _ _ rfl rfl Try.underlying33 rfl (by rfl) rfl) rfl ?_
      refine p_run _ (x_load (.slice B m.hvs.length d) rfl rfl (bkCell (HS.get (.head _)) 11 _ rfl) (by rfl)) rfl ?_
      refine w_call [.slice B m.hvs.length d, .func (.func 34) #[] [].toArray] Try.func33 (by kernel_rfl) (by rfl) rfl ?_
      refine (conH_any _ B d m.hvs (Kd.C_below hB HS.belowOf) hl2).mono ?_
      rintro e w24 ⟨rfl, hb_⟩
      replace HS := HS.here hb_
      clear hb_
      refine ⟨_, rfl, ?_⟩
      refine p_run _ (x_not (!(m.hvs.all hvOk)) rfl rfl) rfl ?_
      refine p_run _ (x_assign (.bool (!(!(m.hvs.all hvOk)))) rfl rfl) rfl ?_
      refine wpList_nil ?_
      obtain ⟨qz25, hqz25⟩ : ∃ q_ : V8, q_ = ⟨.bool false, .pointer (some ⟨g5, 10, none⟩), .slice A m.its.length c, .int .i64 (m.its.length : Int), .bool false, .bool false, .bool false, .pointer (some ⟨g5, 11, none⟩)⟩ := ⟨_, rfl⟩
      obtain ⟨qz26, hqz26⟩ : ∃ q_ : V8, q_ = ⟨.slice B m.hvs.length d, .int .i64 (m.hvs.length : Int), .bool false, .bool false, .pointer (some ⟨g5, 10, none⟩), .slice A m.its.length c, .bool true, .bool false⟩ := ⟨_, rfl⟩
      refine fr_at (l' := (mgV m A c B d :: .pointer (some ⟨g5, 0, none⟩) :: .bool false :: .bool false :: .bool (!(!(m.hvs.all hvOk))) :: mgV m A c B d :: .bool true :: .bool false :: V8.l qz25 (V8.l qz26 (.pointer (some ⟨g5, 11, none⟩) :: .slice B m.hvs.length d :: .bool (!(m.hvs.all hvOk)) :: .bool (!(!(m.hvs.all hvOk))) :: U16f2 (U8f2 (undef :: undef :: [])))))) (by subst hqz25 hqz26; rfl) ?_
      refine hK21 _ _ ?_
      refine wp_seq_k (fun K27 hK28 => ?_)
      refine c_region (fun ops30 hops29 => ?_)
      refine p_run _ (x_move (.bool false) rfl rfl) rfl ?_
      refine p_run _ (x_move (.bool false) rfl rfl) rfl ?_
      refine p_off (by rw [hops29]; rfl) rfl ?_
      refine p_run _ (x_pick false (undef) (.bool false) (.bool false) rfl rfl rfl rfl rfl) rfl ?_
      refine p_run _ (x_move (.bool false) rfl rfl) rfl ?_
      refine p_off (by rw [hops29]; rfl) rfl ?_
      refine p_off (l' := (mgV m A c B d :: .pointer (some ⟨g5, 0, none⟩) :: .bool false :: .bool false :: .bool (!(!(m.hvs.all hvOk))) :: mgV m A c B d :: .bool true :: .bool false :: V8.l qz25 (V8.l qz26 (.pointer (some ⟨g5, 11, none⟩) :: .slice B m.hvs.length d :: .bool (!(m.hvs.all hvOk)) :: .bool (!(!(m.hvs.all hvOk))) :: .bool false :: .bool false :: undef :: .bool false :: .bool false :: U16f2 (U4f2 (undef :: [])))))) (by rw [hops29]; rfl) rfl ?_
      refine p_off (by rw [hops29]; rfl) rfl ?_
      refine p_off (by rw [hops29]; rfl) rfl ?_
      refine p_off (by rw [hops29]; rfl) rfl ?_
      refine p_off (by rw [hops29]; rfl) rfl ?_
      refine p_off (by rw [hops29]; rfl) rfl ?_
      refine p_off (by rw [hops29]; rfl) rfl ?_
      refine p_off (l' := (mgV m A c B d :: .pointer (some ⟨g5, 0, none⟩) :: .bool false :: .bool false :: .bool (!(!(m.hvs.all hvOk))) :: mgV m A c B d :: .bool true :: .bool false :: V8.l qz25 (V8.l qz26 (.pointer (some ⟨g5, 11, none⟩) :: .slice B m.hvs.length d :: .bool (!(m.hvs.all hvOk)) :: .bool (!(!(m.hvs.all hvOk))) :: .bool false :: .bool false :: undef :: .bool false :: .bool false :: U16f2 (U4f2 (undef :: [])))))) (by rw [hops29]; rfl) rfl ?_
      refine p_run _ (x_pick false (undef) (.bool false) (.bool false) rfl rfl rfl rfl rfl) rfl ?_
      refine p_run _ (x_move (.bool false) rfl rfl) rfl ?_
      refine p_off (by rw [hops29]; rfl) rfl ?_
      refine p_off (by rw [hops29]; rfl) rfl ?_
      refine p_off (by rw [hops29]; rfl) rfl ?_
      refine p_off (by rw [hops29]; rfl) rfl ?_
      refine p_off (l' := (mgV m A c B d :: .pointer (some ⟨g5, 0, none⟩) :: .bool false :: .bool false :: .bool (!(!(m.hvs.all hvOk))) :: mgV m A c B d :: .bool true :: .bool false :: V8.l qz25 (V8.l qz26 (.pointer (some ⟨g5, 11, none⟩) :: .slice B m.hvs.length d :: .bool (!(m.hvs.all hvOk)) :: .bool (!(!(m.hvs.all hvOk))) :: .bool false :: .bool false :: undef :: .bool false :: .bool false :: U8f2 (undef :: .bool false :: .bool false :: U8f2 (undef :: undef :: [])))))) (by rw [hops29]; rfl) rfl ?_
      refine p_off (by rw [hops29]; rfl) rfl ?_
      refine p_off (by rw [hops29]; rfl) rfl ?_
      refine p_off (by rw [hops29]; rfl) rfl ?_
      refine p_off (by rw [hops29]; rfl) rfl ?_
      refine p_run _ (x_pick false (undef) (.bool false) (.bool false) rfl rfl rfl rfl rfl) rfl ?_
      refine p_run _ (x_assign (.bool false) rfl rfl) rfl ?_
      clear hops29
      refine wpList_nil ?_
      obtain ⟨qz31, hqz31⟩ : ∃ q_ : V8, q_ = ⟨.pointer (some ⟨g5, 11, none⟩), .slice B m.hvs.length d, .bool (!(m.hvs.all hvOk)), .bool (!(!(m.hvs.all hvOk))), .bool false, .bool false, undef, .bool false⟩ := ⟨_, rfl⟩
      obtain ⟨qz32, hqz32⟩ : ∃ q_ : V8, q_ = ⟨.bool false, undef, undef, undef, undef, undef, undef, undef⟩ := ⟨_, rfl⟩
      obtain ⟨qz33, hqz33⟩ : ∃ q_ : V8, q_ = ⟨undef, undef, .bool false, .bool false, undef, undef, undef, undef⟩ := ⟨_, rfl⟩
      refine fr_at (l' := (mgV m A c B d :: .pointer (some ⟨g5, 0, none⟩) :: .bool false :: .bool false :: .bool (!(!(m.hvs.all hvOk))) :: mgV m A c B d :: .bool true :: .bool false :: V8.l qz25 (V8.l qz26 (V8.l qz31 (V8.l qz32 (V8.l qz33 (U4f2 (undef :: .bool false :: [])))))))) (by subst hqz31 hqz32 hqz33; rfl) ?_
      refine hK28 _ _ ?_
      refine wp_ret ?_
      try simp only [Exit.inBlock, Exit.then]
      refine c_ret (.bool false) (r_tmp rfl rfl) ?_
      have e1 : mgOk m = false := by
        unfold mgOk
        rw [hn, decide_eq_true hi4, decide_eq_true hh8, hI]; rfl
      rw [e1]
      exact ⟨rfl, HS.belowOf⟩
    · skip
      refine c_region (fun ops35 hops34 => ?_)
      clear hops34
      refine p_run _ (x_field (j := 10) _ _ rfl rfl Try.underlying33 rfl (by rfl) rfl) rfl ?_
      refine p_run _ (x_load (.slice A m.its.length c) rfl rfl (bkCell (HS.get (.head _)) 10 _ rfl) (by rfl)) rfl ?_
      refine w_call [.slice A m.its.length c, .func (.func 31) #[] [].toArray] Try.func30 (by kernel_rfl) (by rfl) rfl ?_
      refine (conI_any _ A c m.its (Kd.C_below hA HS.belowOf) hl).mono ?_
      rintro e w36 ⟨he_, hb_⟩
      rw [hI] at he_
      subst he_
      replace HS := HS.here hb_
      clear hb_
      refine ⟨_, rfl, ?_⟩
      refine p_run _ (x_not false rfl rfl) rfl ?_
      refine p_run _ (x_assign (.bool true) rfl rfl) rfl ?_
      refine wpList_nil ?_
      obtain ⟨qz37, hqz37⟩ : ∃ q_ : V8, q_ = ⟨.bool false, .pointer (some ⟨g5, 10, none⟩), .slice A m.its.length c, .int .i64 (m.its.length : Int), .bool false, .bool false, .bool false, .pointer (some ⟨g5, 11, none⟩)⟩ := ⟨_, rfl⟩
      obtain ⟨qz38, hqz38⟩ : ∃ q_ : V8, q_ = ⟨.slice B m.hvs.length d, .int .i64 (m.hvs.length : Int), .bool false, .bool false, .pointer (some ⟨g5, 10, none⟩), .slice A m.its.length c, .bool false, .bool true⟩ := ⟨_, rfl⟩
      refine fr_at (l' := (mgV m A c B d :: .pointer (some ⟨g5, 0, none⟩) :: .bool false :: .bool true :: undef :: mgV m A c B d :: .bool true :: .bool false :: V8.l qz37 (V8.l qz38 (U16f2 (U8f2 (U4f2 (undef :: undef :: []))))))) (by subst hqz37 hqz38; rfl) ?_
      refine hK16 _ _ ?_
      refine wp_seq_k (fun K39 hK40 => ?_)
      refine c_region (fun ops42 hops41 => ?_)
      clear hops41
      refine p_run _ (x_field (j := 11) _ _ rfl rfl Try.underlying33 rfl (by rfl) rfl) rfl ?_
      refine p_run _ (x_load (.slice B m.hvs.length d) rfl rfl (bkCell (HS.get (.head _)) 11 _ rfl) (by rfl)) rfl ?_
      refine w_call [.slice B m.hvs.length d, .func (.func 34) #[] [].toArray] Try.func33 (by kernel_rfl) (by rfl) rfl ?_
      refine (conH_any _ B d m.hvs (Kd.C_below hB HS.belowOf) hl2).mono ?_
      rintro e w43 ⟨he_, hb_⟩
      rw [hH] at he_
      subst he_
      replace HS := HS.here hb_
      clear hb_
      refine ⟨_, rfl, ?_⟩
      refine p_run _ (x_not true rfl rfl) rfl ?_
      refine p_run _ (x_assign (.bool false) rfl rfl) rfl ?_
      refine wpList_nil ?_
      refine fr_at (l' := (mgV m A c B d :: .pointer (some ⟨g5, 0, none⟩) :: .bool false :: .bool true :: .bool false :: mgV m A c B d :: .bool true :: .bool false :: V8.l qz37 (V8.l qz38 (.pointer (some ⟨g5, 11, none⟩) :: .slice B m.hvs.length d :: .bool true :: .bool false :: U16f2 (U8f2 (undef :: undef :: [])))))) rfl ?_
      refine hK40 _ _ ?_
      refine wp_seq_k (fun K44 hK45 => ?_)
      refine c_region (fun ops47 hops46 => ?_)
      refine p_run _ (x_move (.bool true) rfl rfl) rfl ?_
      refine p_run _ (x_move (.bool true) rfl rfl) rfl ?_
      refine p_on rfl (by rw [hops46]; rfl) ?_
      refine p_run _ (x_move (.bool false) rfl rfl) rfl ?_
      refine p_run _ (x_pick true (.bool false) (.bool false) (.bool false) rfl rfl rfl rfl rfl) rfl ?_
      refine p_run _ (x_move (.bool false) rfl rfl) rfl ?_
      refine p_off (by rw [hops46]; rfl) rfl ?_
      refine p_off (l' := (mgV m A c B d :: .pointer (some ⟨g5, 0, none⟩) :: .bool false :: .bool true :: .bool false :: mgV m A c B d :: .bool true :: .bool false :: V8.l qz37 (V8.l qz38 (.pointer (some ⟨g5, 11, none⟩) :: .slice B m.hvs.length d :: .bool true :: .bool false :: .bool true :: .bool true :: .bool false :: .bool false :: .bool false :: U16f2 (U4f2 (undef :: [])))))) (by rw [hops46]; rfl) rfl ?_
      refine p_off (by rw [hops46]; rfl) rfl ?_
      refine p_off (by rw [hops46]; rfl) rfl ?_
      refine p_off (by rw [hops46]; rfl) rfl ?_
      refine p_off (by rw [hops46]; rfl) rfl ?_
      refine p_off (by rw [hops46]; rfl) rfl ?_
      refine p_off (by rw [hops46]; rfl) rfl ?_
      refine p_off (l' := (mgV m A c B d :: .pointer (some ⟨g5, 0, none⟩) :: .bool false :: .bool true :: .bool false :: mgV m A c B d :: .bool true :: .bool false :: V8.l qz37 (V8.l qz38 (.pointer (some ⟨g5, 11, none⟩) :: .slice B m.hvs.length d :: .bool true :: .bool false :: .bool true :: .bool true :: .bool false :: .bool false :: .bool false :: U16f2 (U4f2 (undef :: [])))))) (by rw [hops46]; rfl) rfl ?_
      refine p_run _ (x_pick false (undef) (.bool false) (.bool false) rfl rfl rfl rfl rfl) rfl ?_
      refine p_run _ (x_move (.bool false) rfl rfl) rfl ?_
      refine p_off (by rw [hops46]; rfl) rfl ?_
      refine p_off (by rw [hops46]; rfl) rfl ?_
      refine p_off (by rw [hops46]; rfl) rfl ?_
      refine p_off (by rw [hops46]; rfl) rfl ?_
      refine p_off (l' := (mgV m A c B d :: .pointer (some ⟨g5, 0, none⟩) :: .bool false :: .bool true :: .bool false :: mgV m A c B d :: .bool true :: .bool false :: V8.l qz37 (V8.l qz38 (.pointer (some ⟨g5, 11, none⟩) :: .slice B m.hvs.length d :: .bool true :: .bool false :: .bool true :: .bool true :: .bool false :: .bool false :: .bool false :: U8f2 (undef :: .bool false :: .bool false :: U8f2 (undef :: undef :: [])))))) (by rw [hops46]; rfl) rfl ?_
      refine p_off (by rw [hops46]; rfl) rfl ?_
      refine p_off (by rw [hops46]; rfl) rfl ?_
      refine p_off (by rw [hops46]; rfl) rfl ?_
      refine p_off (by rw [hops46]; rfl) rfl ?_
      refine p_run _ (x_pick false (undef) (.bool false) (.bool false) rfl rfl rfl rfl rfl) rfl ?_
      refine p_run _ (x_assign (.bool false) rfl rfl) rfl ?_
      clear hops46
      refine wpList_nil ?_
      obtain ⟨qz48, hqz48⟩ : ∃ q_ : V8, q_ = ⟨.pointer (some ⟨g5, 11, none⟩), .slice B m.hvs.length d, .bool true, .bool false, .bool true, .bool true, .bool false, .bool false⟩ := ⟨_, rfl⟩
      obtain ⟨qz49, hqz49⟩ : ∃ q_ : V8, q_ = ⟨.bool false, undef, undef, undef, undef, undef, undef, undef⟩ := ⟨_, rfl⟩
      obtain ⟨qz50, hqz50⟩ : ∃ q_ : V8, q_ = ⟨undef, undef, .bool false, .bool false, undef, undef, undef, undef⟩ := ⟨_, rfl⟩
      refine fr_at (l' := (mgV m A c B d :: .pointer (some ⟨g5, 0, none⟩) :: .bool false :: .bool true :: .bool false :: mgV m A c B d :: .bool true :: .bool false :: V8.l qz37 (V8.l qz38 (V8.l qz48 (V8.l qz49 (V8.l qz50 (U4f2 (undef :: .bool false :: [])))))))) (by subst hqz48 hqz49 hqz50; rfl) ?_
      refine hK45 _ _ ?_
      refine wp_ret ?_
      try simp only [Exit.inBlock, Exit.then]
      refine c_ret (.bool false) (r_tmp rfl rfl) ?_
      have e1 : mgOk m = false := by
        unfold mgOk
        rw [hn, decide_eq_true hi4, decide_eq_true hh8, hI, hH]; rfl
      rw [e1]
      exact ⟨rfl, HS.belowOf⟩
    · skip
      refine c_region (fun ops52 hops51 => ?_)
      clear hops51
      refine p_run _ (x_field (j := 10) _ _ rfl rfl Try.underlying33 rfl (by rfl) rfl) rfl ?_
      refine p_run _ (x_load (.slice A m.its.length c) rfl rfl (bkCell (HS.get (.head _)) 10 _ rfl) (by rfl)) rfl ?_
      refine w_call [.slice A m.its.length c, .func (.func 31) #[] [].toArray] Try.func30 (by kernel_rfl) (by rfl) rfl ?_
      refine (conI_any _ A c m.its (Kd.C_below hA HS.belowOf) hl).mono ?_
      rintro e w53 ⟨he_, hb_⟩
      rw [hI] at he_
      subst he_
      replace HS := HS.here hb_
      clear hb_
      refine ⟨_, rfl, ?_⟩
      refine p_run _ (x_not false rfl rfl) rfl ?_
      refine p_run _ (x_assign (.bool true) rfl rfl) rfl ?_
      refine wpList_nil ?_
      obtain ⟨qz54, hqz54⟩ : ∃ q_ : V8, q_ = ⟨.bool false, .pointer (some ⟨g5, 10, none⟩), .slice A m.its.length c, .int .i64 (m.its.length : Int), .bool false, .bool false, .bool false, .pointer (some ⟨g5, 11, none⟩)⟩ := ⟨_, rfl⟩
      obtain ⟨qz55, hqz55⟩ : ∃ q_ : V8, q_ = ⟨.slice B m.hvs.length d, .int .i64 (m.hvs.length : Int), .bool false, .bool false, .pointer (some ⟨g5, 10, none⟩), .slice A m.its.length c, .bool false, .bool true⟩ := ⟨_, rfl⟩
      refine fr_at (l' := (mgV m A c B d :: .pointer (some ⟨g5, 0, none⟩) :: .bool false :: .bool true :: undef :: mgV m A c B d :: .bool true :: .bool false :: V8.l qz54 (V8.l qz55 (U16f2 (U8f2 (U4f2 (undef :: undef :: []))))))) (by subst hqz54 hqz55; rfl) ?_
      refine hK16 _ _ ?_
      refine wp_seq_k (fun K56 hK57 => ?_)
      refine c_region (fun ops59 hops58 => ?_)
      clear hops58
      refine p_run _ (x_field (j := 11) _ _ rfl rfl Try.underlying33 rfl (by rfl) rfl) rfl ?_
      refine p_run _ (x_load (.slice B m.hvs.length d) rfl rfl (bkCell (HS.get (.head _)) 11 _ rfl) (by rfl)) rfl ?_
      refine w_call [.slice B m.hvs.length d, .func (.func 34) #[] [].toArray] Try.func33 (by kernel_rfl) (by rfl) rfl ?_
      refine (conH_any _ B d m.hvs (Kd.C_below hB HS.belowOf) hl2).mono ?_
      rintro e w60 ⟨he_, hb_⟩
      rw [hH] at he_
      subst he_
      replace HS := HS.here hb_
      clear hb_
      refine ⟨_, rfl, ?_⟩
      refine p_run _ (x_not false rfl rfl) rfl ?_
      refine p_run _ (x_assign (.bool true) rfl rfl) rfl ?_
      refine wpList_nil ?_
      refine fr_at (l' := (mgV m A c B d :: .pointer (some ⟨g5, 0, none⟩) :: .bool false :: .bool true :: .bool true :: mgV m A c B d :: .bool true :: .bool false :: V8.l qz54 (V8.l qz55 (.pointer (some ⟨g5, 11, none⟩) :: .slice B m.hvs.length d :: .bool false :: .bool true :: U16f2 (U8f2 (undef :: undef :: [])))))) rfl ?_
      refine hK57 _ _ ?_
      refine wp_seq_k (fun K61 hK62 => ?_)
      refine c_region (fun ops64 hops63 => ?_)
      refine p_run _ (x_move (.bool true) rfl rfl) rfl ?_
      refine p_run _ (x_move (.bool true) rfl rfl) rfl ?_
      refine p_on rfl (by rw [hops63]; rfl) ?_
      refine p_run _ (x_move (.bool true) rfl rfl) rfl ?_
      refine p_run _ (x_pick true (.bool true) (.bool false) (.bool true) rfl rfl rfl rfl rfl) rfl ?_
      refine p_run _ (x_move (.bool true) rfl rfl) rfl ?_
      refine p_on rfl (by rw [hops63]; rfl) ?_
      refine p_run _ (x_field (j := 10) _ _ rfl rfl Try.underlying33 rfl (by rfl) rfl) rfl ?_
      refine p_on rfl (by rw [hops63]; rfl) ?_
      refine p_run (l' := (mgV m A c B d :: .pointer (some ⟨g5, 0, none⟩) :: .bool false :: .bool true :: .bool true :: mgV m A c B d :: .bool true :: .bool false :: V8.l qz54 (V8.l qz55 (.pointer (some ⟨g5, 11, none⟩) :: .slice B m.hvs.length d :: .bool false :: .bool true :: .bool true :: .bool true :: .bool true :: .bool true :: .bool true :: .pointer (some ⟨g5, 10, none⟩) :: .slice A m.its.length c :: U16f2 (undef :: undef :: undef :: []))))) _ (x_load (.slice A m.its.length c) rfl rfl (bkCell (HS.get (.head _)) 10 _ rfl) (by rfl)) rfl ?_
      refine p_on rfl (by rw [hops63]; rfl) ?_
      refine p_run _ (x_len rfl rfl Try.underlying30) rfl ?_
      refine p_on rfl (by rw [hops63]; rfl) ?_
      refine p_run _ (x_cmp (k := .i64) (m := (m.its.length : Int)) (n := 0) .eql false rfl rfl rfl (len_ne h1.1) rfl) rfl ?_
      refine p_on rfl (by rw [hops63]; rfl) ?_
      refine p_run _ (x_move (.bool false) rfl rfl) rfl ?_
      refine p_on rfl (by rw [hops63]; rfl) ?_
      refine p_run _ (x_field (j := 0) _ _ rfl rfl Try.underlying33 rfl (by rfl) rfl) rfl ?_
      refine p_on rfl (by rw [hops63]; rfl) ?_
      refine p_run _ (x_load (.int .i64 m.k) rfl rfl (bkCell (HS.get (.head _)) 0 _ rfl) (by rfl)) rfl ?_
      refine p_on rfl (by rw [hops63]; rfl) ?_
      refine p_run _ (x_cmp (k := .i64) (m := m.k) (n := 3) .eql false rfl rfl rfl (int_ne h1.2) rfl) rfl ?_
      refine p_on rfl (by rw [hops63]; rfl) ?_
      refine p_run (l' := (mgV m A c B d :: .pointer (some ⟨g5, 0, none⟩) :: .bool false :: .bool true :: .bool true :: mgV m A c B d :: .bool true :: .bool false :: V8.l qz54 (V8.l qz55 (.pointer (some ⟨g5, 11, none⟩) :: .slice B m.hvs.length d :: .bool false :: .bool true :: .bool true :: .bool true :: .bool true :: .bool true :: .bool true :: .pointer (some ⟨g5, 10, none⟩) :: .slice A m.its.length c :: .int .i64 (m.its.length : Int) :: .bool false :: .bool false :: .pointer (some ⟨g5, 0, none⟩) :: .int .i64 m.k :: .bool false :: .bool false :: U8f2 (U4f2 ([])))))) _ (x_pick false (.bool true) (.bool false) (.bool false) rfl rfl rfl rfl rfl) rfl ?_
      refine p_run _ (x_pick true (.bool false) (.bool false) (.bool false) rfl rfl rfl rfl rfl) rfl ?_
      refine p_run _ (x_move (.bool false) rfl rfl) rfl ?_
      refine p_off (by rw [hops63]; rfl) rfl ?_
      refine p_off (by rw [hops63]; rfl) rfl ?_
      refine p_off (by rw [hops63]; rfl) rfl ?_
      refine p_off (by rw [hops63]; rfl) rfl ?_
      refine p_off (l' := (mgV m A c B d :: .pointer (some ⟨g5, 0, none⟩) :: .bool false :: .bool true :: .bool true :: mgV m A c B d :: .bool true :: .bool false :: V8.l qz54 (V8.l qz55 (.pointer (some ⟨g5, 11, none⟩) :: .slice B m.hvs.length d :: .bool false :: .bool true :: .bool true :: .bool true :: .bool true :: .bool true :: .bool true :: .pointer (some ⟨g5, 10, none⟩) :: .slice A m.its.length c :: .int .i64 (m.its.length : Int) :: .bool false :: .bool false :: .pointer (some ⟨g5, 0, none⟩) :: .int .i64 m.k :: .bool false :: .bool false :: .bool false :: .bool false :: U8f2 (undef :: undef :: []))))) (by rw [hops63]; rfl) rfl ?_
      refine p_off (by rw [hops63]; rfl) rfl ?_
      refine p_off (by rw [hops63]; rfl) rfl ?_
      refine p_off (by rw [hops63]; rfl) rfl ?_
      refine p_off (by rw [hops63]; rfl) rfl ?_
      refine p_run _ (x_pick false (undef) (.bool false) (.bool false) rfl rfl rfl rfl rfl) rfl ?_
      refine p_run _ (x_assign (.bool false) rfl rfl) rfl ?_
      clear hops63
      refine wpList_nil ?_
      obtain ⟨qz65, hqz65⟩ : ∃ q_ : V8, q_ = ⟨.pointer (some ⟨g5, 11, none⟩), .slice B m.hvs.length d, .bool false, .bool true, .bool true, .bool true, .bool true, .bool true⟩ := ⟨_, rfl⟩
      obtain ⟨qz66, hqz66⟩ : ∃ q_ : V8, q_ = ⟨.bool true, .pointer (some ⟨g5, 10, none⟩), .slice A m.its.length c, .int .i64 (m.its.length : Int), .bool false, .bool false, .pointer (some ⟨g5, 0, none⟩), .int .i64 m.k⟩ := ⟨_, rfl⟩
      obtain ⟨qz67, hqz67⟩ : ∃ q_ : V8, q_ = ⟨.bool false, .bool false, .bool false, .bool false, undef, undef, undef, undef⟩ := ⟨_, rfl⟩
      refine fr_at (l' := (mgV m A c B d :: .pointer (some ⟨g5, 0, none⟩) :: .bool false :: .bool true :: .bool true :: mgV m A c B d :: .bool true :: .bool false :: V8.l qz54 (V8.l qz55 (V8.l qz65 (V8.l qz66 (V8.l qz67 (U4f2 (undef :: .bool false :: [])))))))) (by subst hqz65 hqz66 hqz67; rfl) ?_
      refine hK62 _ _ ?_
      refine wp_ret ?_
      try simp only [Exit.inBlock, Exit.then]
      refine c_ret (.bool false) (r_tmp rfl rfl) ?_
      have e1 : mgOk m = false := by
        unfold mgOk
        rw [hn, decide_eq_true hi4, decide_eq_true hh8, hI, hH]; rw [decide_eq_false h1.1, decide_eq_false h1.2]; rfl
      rw [e1]
      exact ⟨rfl, HS.belowOf⟩
    · skip
      refine c_region (fun ops69 hops68 => ?_)
      clear hops68
      refine p_run _ (x_field (j := 10) _ _ rfl rfl Try.underlying33 rfl (by rfl) rfl) rfl ?_
      refine p_run _ (x_load (.slice A m.its.length c) rfl rfl (bkCell (HS.get (.head _)) 10 _ rfl) (by rfl)) rfl ?_
      refine w_call [.slice A m.its.length c, .func (.func 31) #[] [].toArray] Try.func30 (by kernel_rfl) (by rfl) rfl ?_
      refine (conI_any _ A c m.its (Kd.C_below hA HS.belowOf) hl).mono ?_
      rintro e w70 ⟨he_, hb_⟩
      rw [hI] at he_
      subst he_
      replace HS := HS.here hb_
      clear hb_
      refine ⟨_, rfl, ?_⟩
      refine p_run _ (x_not false rfl rfl) rfl ?_
      refine p_run _ (x_assign (.bool true) rfl rfl) rfl ?_
      refine wpList_nil ?_
      obtain ⟨qz71, hqz71⟩ : ∃ q_ : V8, q_ = ⟨.bool false, .pointer (some ⟨g5, 10, none⟩), .slice A m.its.length c, .int .i64 (m.its.length : Int), .bool false, .bool false, .bool false, .pointer (some ⟨g5, 11, none⟩)⟩ := ⟨_, rfl⟩
      obtain ⟨qz72, hqz72⟩ : ∃ q_ : V8, q_ = ⟨.slice B m.hvs.length d, .int .i64 (m.hvs.length : Int), .bool false, .bool false, .pointer (some ⟨g5, 10, none⟩), .slice A m.its.length c, .bool false, .bool true⟩ := ⟨_, rfl⟩
      refine fr_at (l' := (mgV m A c B d :: .pointer (some ⟨g5, 0, none⟩) :: .bool false :: .bool true :: undef :: mgV m A c B d :: .bool true :: .bool false :: V8.l qz71 (V8.l qz72 (U16f2 (U8f2 (U4f2 (undef :: undef :: []))))))) (by subst hqz71 hqz72; rfl) ?_
      refine hK16 _ _ ?_
      refine wp_seq_k (fun K73 hK74 => ?_)
      refine c_region (fun ops76 hops75 => ?_)
      clear hops75
      refine p_run _ (x_field (j := 11) _ _ rfl rfl Try.underlying33 rfl (by rfl) rfl) rfl ?_
      refine p_run _ (x_load (.slice B m.hvs.length d) rfl rfl (bkCell (HS.get (.head _)) 11 _ rfl) (by rfl)) rfl ?_
      refine w_call [.slice B m.hvs.length d, .func (.func 34) #[] [].toArray] Try.func33 (by kernel_rfl) (by rfl) rfl ?_
      refine (conH_any _ B d m.hvs (Kd.C_below hB HS.belowOf) hl2).mono ?_
      rintro e w77 ⟨he_, hb_⟩
      rw [hH] at he_
      subst he_
      replace HS := HS.here hb_
      clear hb_
      refine ⟨_, rfl, ?_⟩
      refine p_run _ (x_not false rfl rfl) rfl ?_
      refine p_run _ (x_assign (.bool true) rfl rfl) rfl ?_
      refine wpList_nil ?_
      refine fr_at (l' := (mgV m A c B d :: .pointer (some ⟨g5, 0, none⟩) :: .bool false :: .bool true :: .bool true :: mgV m A c B d :: .bool true :: .bool false :: V8.l qz71 (V8.l qz72 (.pointer (some ⟨g5, 11, none⟩) :: .slice B m.hvs.length d :: .bool false :: .bool true :: U16f2 (U8f2 (undef :: undef :: [])))))) rfl ?_
      refine hK74 _ _ ?_
      refine wp_seq_k (fun K78 hK79 => ?_)
      refine c_region (fun ops81 hops80 => ?_)
      refine p_run _ (x_move (.bool true) rfl rfl) rfl ?_
      refine p_run _ (x_move (.bool true) rfl rfl) rfl ?_
      refine p_on rfl (by rw [hops80]; rfl) ?_
      refine p_run _ (x_move (.bool true) rfl rfl) rfl ?_
      refine p_run _ (x_pick true (.bool true) (.bool false) (.bool true) rfl rfl rfl rfl rfl) rfl ?_
      refine p_run _ (x_move (.bool true) rfl rfl) rfl ?_
      refine p_on rfl (by rw [hops80]; rfl) ?_
      refine p_run _ (x_field (j := 10) _ _ rfl rfl Try.underlying33 rfl (by rfl) rfl) rfl ?_
      refine p_on rfl (by rw [hops80]; rfl) ?_
      refine p_run (l' := (mgV m A c B d :: .pointer (some ⟨g5, 0, none⟩) :: .bool false :: .bool true :: .bool true :: mgV m A c B d :: .bool true :: .bool false :: V8.l qz71 (V8.l qz72 (.pointer (some ⟨g5, 11, none⟩) :: .slice B m.hvs.length d :: .bool false :: .bool true :: .bool true :: .bool true :: .bool true :: .bool true :: .bool true :: .pointer (some ⟨g5, 10, none⟩) :: .slice A m.its.length c :: U16f2 (undef :: undef :: undef :: []))))) _ (x_load (.slice A m.its.length c) rfl rfl (bkCell (HS.get (.head _)) 10 _ rfl) (by rfl)) rfl ?_
      refine p_on rfl (by rw [hops80]; rfl) ?_
      refine p_run _ (x_len rfl rfl Try.underlying30) rfl ?_
      refine p_on rfl (by rw [hops80]; rfl) ?_
      refine p_run _ (x_cmp (k := .i64) (m := (m.its.length : Int)) (n := 0) .eql true rfl rfl rfl (by rw [h1]; rfl) rfl) rfl ?_
      refine p_on rfl (by rw [hops80]; rfl) ?_
      refine p_run _ (x_move (.bool true) rfl rfl) rfl ?_
      refine p_off (by rw [hops80]; rfl) rfl ?_
      refine p_off (by rw [hops80]; rfl) rfl ?_
      refine p_off (by rw [hops80]; rfl) rfl ?_
      refine p_on rfl (by rw [hops80]; rfl) ?_
      refine p_run (l' := (mgV m A c B d :: .pointer (some ⟨g5, 0, none⟩) :: .bool false :: .bool true :: .bool true :: mgV m A c B d :: .bool true :: .bool false :: V8.l qz71 (V8.l qz72 (.pointer (some ⟨g5, 11, none⟩) :: .slice B m.hvs.length d :: .bool false :: .bool true :: .bool true :: .bool true :: .bool true :: .bool true :: .bool true :: .pointer (some ⟨g5, 10, none⟩) :: .slice A m.its.length c :: .int .i64 (m.its.length : Int) :: .bool true :: .bool true :: undef :: undef :: undef :: .bool true :: U8f2 (U4f2 ([])))))) _ (x_pick true (.bool true) (undef) (.bool true) rfl rfl rfl rfl rfl) rfl ?_
      refine p_run _ (x_pick true (.bool true) (.bool false) (.bool true) rfl rfl rfl rfl rfl) rfl ?_
      refine p_run _ (x_move (.bool true) rfl rfl) rfl ?_
      refine p_on rfl (by rw [hops80]; rfl) ?_
      refine p_run _ (x_field (j := 11) _ _ rfl rfl Try.underlying33 rfl (by rfl) rfl) rfl ?_
      refine p_on rfl (by rw [hops80]; rfl) ?_
      refine p_run _ (x_load (.slice B m.hvs.length d) rfl rfl (bkCell (HS.get (.head _)) 11 _ rfl) (by rfl)) rfl ?_
      refine p_on rfl (by rw [hops80]; rfl) ?_
      refine p_run _ (x_len rfl rfl Try.underlying31) rfl ?_
      refine p_on rfl (by rw [hops80]; rfl) ?_
      refine p_run _ (x_cmp (k := .i64) (m := (m.hvs.length : Int)) (n := 0) .eql true rfl rfl rfl (by rw [h2]; rfl) rfl) rfl ?_
      refine p_on rfl (by rw [hops80]; rfl) ?_
      refine p_run (l' := (mgV m A c B d :: .pointer (some ⟨g5, 0, none⟩) :: .bool false :: .bool true :: .bool true :: mgV m A c B d :: .bool true :: .bool false :: V8.l qz71 (V8.l qz72 (.pointer (some ⟨g5, 11, none⟩) :: .slice B m.hvs.length d :: .bool false :: .bool true :: .bool true :: .bool true :: .bool true :: .bool true :: .bool true :: .pointer (some ⟨g5, 10, none⟩) :: .slice A m.its.length c :: .int .i64 (m.its.length : Int) :: .bool true :: .bool true :: undef :: undef :: undef :: .bool true :: .bool true :: .bool true :: .pointer (some ⟨g5, 11, none⟩) :: .slice B m.hvs.length d :: .int .i64 (m.hvs.length : Int) :: .bool true :: .bool true :: U4f2 (undef :: []))))) _ (x_move (.bool true) rfl rfl) rfl ?_
      refine p_off (by rw [hops80]; rfl) rfl ?_
      refine p_off (by rw [hops80]; rfl) rfl ?_
      refine p_off (by rw [hops80]; rfl) rfl ?_
      refine p_on rfl (by rw [hops80]; rfl) ?_
      refine p_run _ (x_pick true (.bool true) (undef) (.bool true) rfl rfl rfl rfl rfl) rfl ?_
      refine p_run _ (x_pick true (.bool true) (.bool false) (.bool true) rfl rfl rfl rfl rfl) rfl ?_
      refine p_run _ (x_assign (.bool true) rfl rfl) rfl ?_
      clear hops80
      refine wpList_nil ?_
      obtain ⟨qz82, hqz82⟩ : ∃ q_ : V8, q_ = ⟨.pointer (some ⟨g5, 11, none⟩), .slice B m.hvs.length d, .bool false, .bool true, .bool true, .bool true, .bool true, .bool true⟩ := ⟨_, rfl⟩
      obtain ⟨qz83, hqz83⟩ : ∃ q_ : V8, q_ = ⟨.bool true, .pointer (some ⟨g5, 10, none⟩), .slice A m.its.length c, .int .i64 (m.its.length : Int), .bool true, .bool true, undef, undef⟩ := ⟨_, rfl⟩
      obtain ⟨qz84, hqz84⟩ : ∃ q_ : V8, q_ = ⟨undef, .bool true, .bool true, .bool true, .pointer (some ⟨g5, 11, none⟩), .slice B m.hvs.length d, .int .i64 (m.hvs.length : Int), .bool true⟩ := ⟨_, rfl⟩
      refine fr_at (l' := (mgV m A c B d :: .pointer (some ⟨g5, 0, none⟩) :: .bool true :: .bool true :: .bool true :: mgV m A c B d :: .bool true :: .bool false :: V8.l qz71 (V8.l qz72 (V8.l qz82 (V8.l qz83 (V8.l qz84 (.bool true :: undef :: undef :: undef :: .bool true :: .bool true :: []))))))) (by subst hqz82 hqz83 hqz84; rfl) ?_
      refine hK79 _ _ ?_
      refine wp_ret ?_
      try simp only [Exit.inBlock, Exit.then]
      refine c_ret (.bool true) (r_tmp rfl rfl) ?_
      have e1 : mgOk m = true := by
        unfold mgOk
        rw [hn, decide_eq_true hi4, decide_eq_true hh8, hI, hH]; rw [decide_eq_true h1, decide_eq_true h2]; rfl
      rw [e1]
      exact ⟨rfl, HS.belowOf⟩
    · skip
      refine c_region (fun ops86 hops85 => ?_)
      clear hops85
      refine p_run _ (x_field (j := 10) _ _ rfl rfl Try.underlying33 rfl (by rfl) rfl) rfl ?_
      refine p_run _ (x_load (.slice A m.its.length c) rfl rfl (bkCell (HS.get (.head _)) 10 _ rfl) (by rfl)) rfl ?_
      refine w_call [.slice A m.its.length c, .func (.func 31) #[] [].toArray] Try.func30 (by kernel_rfl) (by rfl) rfl ?_
      refine (conI_any _ A c m.its (Kd.C_below hA HS.belowOf) hl).mono ?_
      rintro e w87 ⟨he_, hb_⟩
      rw [hI] at he_
      subst he_
      replace HS := HS.here hb_
      clear hb_
      refine ⟨_, rfl, ?_⟩
      refine p_run _ (x_not false rfl rfl) rfl ?_
      refine p_run _ (x_assign (.bool true) rfl rfl) rfl ?_
      refine wpList_nil ?_
      obtain ⟨qz88, hqz88⟩ : ∃ q_ : V8, q_ = ⟨.bool false, .pointer (some ⟨g5, 10, none⟩), .slice A m.its.length c, .int .i64 (m.its.length : Int), .bool false, .bool false, .bool false, .pointer (some ⟨g5, 11, none⟩)⟩ := ⟨_, rfl⟩
      obtain ⟨qz89, hqz89⟩ : ∃ q_ : V8, q_ = ⟨.slice B m.hvs.length d, .int .i64 (m.hvs.length : Int), .bool false, .bool false, .pointer (some ⟨g5, 10, none⟩), .slice A m.its.length c, .bool false, .bool true⟩ := ⟨_, rfl⟩
      refine fr_at (l' := (mgV m A c B d :: .pointer (some ⟨g5, 0, none⟩) :: .bool false :: .bool true :: undef :: mgV m A c B d :: .bool true :: .bool false :: V8.l qz88 (V8.l qz89 (U16f2 (U8f2 (U4f2 (undef :: undef :: []))))))) (by subst hqz88 hqz89; rfl) ?_
      refine hK16 _ _ ?_
      refine wp_seq_k (fun K90 hK91 => ?_)
      refine c_region (fun ops93 hops92 => ?_)
      clear hops92
      refine p_run _ (x_field (j := 11) _ _ rfl rfl Try.underlying33 rfl (by rfl) rfl) rfl ?_
      refine p_run _ (x_load (.slice B m.hvs.length d) rfl rfl (bkCell (HS.get (.head _)) 11 _ rfl) (by rfl)) rfl ?_
      refine w_call [.slice B m.hvs.length d, .func (.func 34) #[] [].toArray] Try.func33 (by kernel_rfl) (by rfl) rfl ?_
      refine (conH_any _ B d m.hvs (Kd.C_below hB HS.belowOf) hl2).mono ?_
      rintro e w94 ⟨he_, hb_⟩
      rw [hH] at he_
      subst he_
      replace HS := HS.here hb_
      clear hb_
      refine ⟨_, rfl, ?_⟩
      refine p_run _ (x_not false rfl rfl) rfl ?_
      refine p_run _ (x_assign (.bool true) rfl rfl) rfl ?_
      refine wpList_nil ?_
      refine fr_at (l' := (mgV m A c B d :: .pointer (some ⟨g5, 0, none⟩) :: .bool false :: .bool true :: .bool true :: mgV m A c B d :: .bool true :: .bool false :: V8.l qz88 (V8.l qz89 (.pointer (some ⟨g5, 11, none⟩) :: .slice B m.hvs.length d :: .bool false :: .bool true :: U16f2 (U8f2 (undef :: undef :: [])))))) rfl ?_
      refine hK91 _ _ ?_
      refine wp_seq_k (fun K95 hK96 => ?_)
      refine c_region (fun ops98 hops97 => ?_)
      refine p_run _ (x_move (.bool true) rfl rfl) rfl ?_
      refine p_run _ (x_move (.bool true) rfl rfl) rfl ?_
      refine p_on rfl (by rw [hops97]; rfl) ?_
      refine p_run _ (x_move (.bool true) rfl rfl) rfl ?_
      refine p_run _ (x_pick true (.bool true) (.bool false) (.bool true) rfl rfl rfl rfl rfl) rfl ?_
      refine p_run _ (x_move (.bool true) rfl rfl) rfl ?_
      refine p_on rfl (by rw [hops97]; rfl) ?_
      refine p_run _ (x_field (j := 10) _ _ rfl rfl Try.underlying33 rfl (by rfl) rfl) rfl ?_
      refine p_on rfl (by rw [hops97]; rfl) ?_
      refine p_run (l' := (mgV m A c B d :: .pointer (some ⟨g5, 0, none⟩) :: .bool false :: .bool true :: .bool true :: mgV m A c B d :: .bool true :: .bool false :: V8.l qz88 (V8.l qz89 (.pointer (some ⟨g5, 11, none⟩) :: .slice B m.hvs.length d :: .bool false :: .bool true :: .bool true :: .bool true :: .bool true :: .bool true :: .bool true :: .pointer (some ⟨g5, 10, none⟩) :: .slice A m.its.length c :: U16f2 (undef :: undef :: undef :: []))))) _ (x_load (.slice A m.its.length c) rfl rfl (bkCell (HS.get (.head _)) 10 _ rfl) (by rfl)) rfl ?_
      refine p_on rfl (by rw [hops97]; rfl) ?_
      refine p_run _ (x_len rfl rfl Try.underlying30) rfl ?_
      refine p_on rfl (by rw [hops97]; rfl) ?_
      refine p_run _ (x_cmp (k := .i64) (m := (m.its.length : Int)) (n := 0) .eql true rfl rfl rfl (by rw [h1]; rfl) rfl) rfl ?_
      refine p_on rfl (by rw [hops97]; rfl) ?_
      refine p_run _ (x_move (.bool true) rfl rfl) rfl ?_
      refine p_off (by rw [hops97]; rfl) rfl ?_
      refine p_off (by rw [hops97]; rfl) rfl ?_
      refine p_off (by rw [hops97]; rfl) rfl ?_
      refine p_on rfl (by rw [hops97]; rfl) ?_
      refine p_run (l' := (mgV m A c B d :: .pointer (some ⟨g5, 0, none⟩) :: .bool false :: .bool true :: .bool true :: mgV m A c B d :: .bool true :: .bool false :: V8.l qz88 (V8.l qz89 (.pointer (some ⟨g5, 11, none⟩) :: .slice B m.hvs.length d :: .bool false :: .bool true :: .bool true :: .bool true :: .bool true :: .bool true :: .bool true :: .pointer (some ⟨g5, 10, none⟩) :: .slice A m.its.length c :: .int .i64 (m.its.length : Int) :: .bool true :: .bool true :: undef :: undef :: undef :: .bool true :: U8f2 (U4f2 ([])))))) _ (x_pick true (.bool true) (undef) (.bool true) rfl rfl rfl rfl rfl) rfl ?_
      refine p_run _ (x_pick true (.bool true) (.bool false) (.bool true) rfl rfl rfl rfl rfl) rfl ?_
      refine p_run _ (x_move (.bool true) rfl rfl) rfl ?_
      refine p_on rfl (by rw [hops97]; rfl) ?_
      refine p_run _ (x_field (j := 11) _ _ rfl rfl Try.underlying33 rfl (by rfl) rfl) rfl ?_
      refine p_on rfl (by rw [hops97]; rfl) ?_
      refine p_run _ (x_load (.slice B m.hvs.length d) rfl rfl (bkCell (HS.get (.head _)) 11 _ rfl) (by rfl)) rfl ?_
      refine p_on rfl (by rw [hops97]; rfl) ?_
      refine p_run _ (x_len rfl rfl Try.underlying31) rfl ?_
      refine p_on rfl (by rw [hops97]; rfl) ?_
      refine p_run _ (x_cmp (k := .i64) (m := (m.hvs.length : Int)) (n := 0) .eql false rfl rfl rfl (len_ne h2) rfl) rfl ?_
      refine p_on rfl (by rw [hops97]; rfl) ?_
      refine p_run (l' := (mgV m A c B d :: .pointer (some ⟨g5, 0, none⟩) :: .bool false :: .bool true :: .bool true :: mgV m A c B d :: .bool true :: .bool false :: V8.l qz88 (V8.l qz89 (.pointer (some ⟨g5, 11, none⟩) :: .slice B m.hvs.length d :: .bool false :: .bool true :: .bool true :: .bool true :: .bool true :: .bool true :: .bool true :: .pointer (some ⟨g5, 10, none⟩) :: .slice A m.its.length c :: .int .i64 (m.its.length : Int) :: .bool true :: .bool true :: undef :: undef :: undef :: .bool true :: .bool true :: .bool true :: .pointer (some ⟨g5, 11, none⟩) :: .slice B m.hvs.length d :: .int .i64 (m.hvs.length : Int) :: .bool false :: .bool false :: U4f2 (undef :: []))))) _ (x_move (.bool false) rfl rfl) rfl ?_
      refine p_on rfl (by rw [hops97]; rfl) ?_
      refine p_run _ (x_field (j := 0) _ _ rfl rfl Try.underlying33 rfl (by rfl) rfl) rfl ?_
      refine p_on rfl (by rw [hops97]; rfl) ?_
      refine p_run _ (x_load (.int .i64 m.k) rfl rfl (bkCell (HS.get (.head _)) 0 _ rfl) (by rfl)) rfl ?_
      refine p_on rfl (by rw [hops97]; rfl) ?_
      refine p_run _ (x_cmp (k := .i64) (m := m.k) (n := 2) .eql (m.k == 2) rfl rfl rfl rfl rfl) rfl ?_
      refine p_on rfl (by rw [hops97]; rfl) ?_
      refine p_run _ (x_pick false (.bool true) (.bool (m.k == 2)) (.bool (m.k == 2)) rfl rfl rfl rfl rfl) rfl ?_
      refine p_run _ (x_pick true (.bool (m.k == 2)) (.bool false) (.bool (m.k == 2)) rfl rfl rfl rfl rfl) rfl ?_
      refine p_run _ (x_assign (.bool (m.k == 2)) rfl rfl) rfl ?_
      clear hops97
      refine wpList_nil ?_
      obtain ⟨qz99, hqz99⟩ : ∃ q_ : V8, q_ = ⟨.pointer (some ⟨g5, 11, none⟩), .slice B m.hvs.length d, .bool false, .bool true, .bool true, .bool true, .bool true, .bool true⟩ := ⟨_, rfl⟩
      obtain ⟨qz100, hqz100⟩ : ∃ q_ : V8, q_ = ⟨.bool true, .pointer (some ⟨g5, 10, none⟩), .slice A m.its.length c, .int .i64 (m.its.length : Int), .bool true, .bool true, undef, undef⟩ := ⟨_, rfl⟩
      obtain ⟨qz101, hqz101⟩ : ∃ q_ : V8, q_ = ⟨undef, .bool true, .bool true, .bool true, .pointer (some ⟨g5, 11, none⟩), .slice B m.hvs.length d, .int .i64 (m.hvs.length : Int), .bool false⟩ := ⟨_, rfl⟩
      refine fr_at (l' := (mgV m A c B d :: .pointer (some ⟨g5, 0, none⟩) :: .bool (m.k == 2) :: .bool true :: .bool true :: mgV m A c B d :: .bool true :: .bool false :: V8.l qz88 (V8.l qz89 (V8.l qz99 (V8.l qz100 (V8.l qz101 (.bool false :: .pointer (some ⟨g5, 0, none⟩) :: .int .i64 m.k :: .bool (m.k == 2) :: .bool (m.k == 2) :: .bool (m.k == 2) :: []))))))) (by subst hqz99 hqz100 hqz101; rfl) ?_
      refine hK96 _ _ ?_
      refine wp_ret ?_
      try simp only [Exit.inBlock, Exit.then]
      refine c_ret (.bool (m.k == 2)) (r_tmp rfl rfl) ?_
      have e1 : mgOk m = (m.k == 2) := by
        unfold mgOk
        rw [hn, decide_eq_true hi4, decide_eq_true hh8, hI, hH]; rw [decide_eq_true h1, decide_eq_false h2]; first | (simp; done) | (simp; rfl)
      rw [e1]
      exact ⟨rfl, HS.belowOf⟩
    · skip
      refine c_region (fun ops103 hops102 => ?_)
      clear hops102
      refine p_run _ (x_field (j := 10) _ _ rfl rfl Try.underlying33 rfl (by rfl) rfl) rfl ?_
      refine p_run _ (x_load (.slice A m.its.length c) rfl rfl (bkCell (HS.get (.head _)) 10 _ rfl) (by rfl)) rfl ?_
      refine w_call [.slice A m.its.length c, .func (.func 31) #[] [].toArray] Try.func30 (by kernel_rfl) (by rfl) rfl ?_
      refine (conI_any _ A c m.its (Kd.C_below hA HS.belowOf) hl).mono ?_
      rintro e w104 ⟨he_, hb_⟩
      rw [hI] at he_
      subst he_
      replace HS := HS.here hb_
      clear hb_
      refine ⟨_, rfl, ?_⟩
      refine p_run _ (x_not false rfl rfl) rfl ?_
      refine p_run _ (x_assign (.bool true) rfl rfl) rfl ?_
      refine wpList_nil ?_
      obtain ⟨qz105, hqz105⟩ : ∃ q_ : V8, q_ = ⟨.bool false, .pointer (some ⟨g5, 10, none⟩), .slice A m.its.length c, .int .i64 (m.its.length : Int), .bool false, .bool false, .bool false, .pointer (some ⟨g5, 11, none⟩)⟩ := ⟨_, rfl⟩
      obtain ⟨qz106, hqz106⟩ : ∃ q_ : V8, q_ = ⟨.slice B m.hvs.length d, .int .i64 (m.hvs.length : Int), .bool false, .bool false, .pointer (some ⟨g5, 10, none⟩), .slice A m.its.length c, .bool false, .bool true⟩ := ⟨_, rfl⟩
      refine fr_at (l' := (mgV m A c B d :: .pointer (some ⟨g5, 0, none⟩) :: .bool false :: .bool true :: undef :: mgV m A c B d :: .bool true :: .bool false :: V8.l qz105 (V8.l qz106 (U16f2 (U8f2 (U4f2 (undef :: undef :: []))))))) (by subst hqz105 hqz106; rfl) ?_
      refine hK16 _ _ ?_
      refine wp_seq_k (fun K107 hK108 => ?_)
      refine c_region (fun ops110 hops109 => ?_)
      clear hops109
      refine p_run _ (x_field (j := 11) _ _ rfl rfl Try.underlying33 rfl (by rfl) rfl) rfl ?_
      refine p_run _ (x_load (.slice B m.hvs.length d) rfl rfl (bkCell (HS.get (.head _)) 11 _ rfl) (by rfl)) rfl ?_
      refine w_call [.slice B m.hvs.length d, .func (.func 34) #[] [].toArray] Try.func33 (by kernel_rfl) (by rfl) rfl ?_
      refine (conH_any _ B d m.hvs (Kd.C_below hB HS.belowOf) hl2).mono ?_
      rintro e w111 ⟨he_, hb_⟩
      rw [hH] at he_
      subst he_
      replace HS := HS.here hb_
      clear hb_
      refine ⟨_, rfl, ?_⟩
      refine p_run _ (x_not false rfl rfl) rfl ?_
      refine p_run _ (x_assign (.bool true) rfl rfl) rfl ?_
      refine wpList_nil ?_
      refine fr_at (l' := (mgV m A c B d :: .pointer (some ⟨g5, 0, none⟩) :: .bool false :: .bool true :: .bool true :: mgV m A c B d :: .bool true :: .bool false :: V8.l qz105 (V8.l qz106 (.pointer (some ⟨g5, 11, none⟩) :: .slice B m.hvs.length d :: .bool false :: .bool true :: U16f2 (U8f2 (undef :: undef :: [])))))) rfl ?_
      refine hK108 _ _ ?_
      refine wp_seq_k (fun K112 hK113 => ?_)
      refine c_region (fun ops115 hops114 => ?_)
      refine p_run _ (x_move (.bool true) rfl rfl) rfl ?_
      refine p_run _ (x_move (.bool true) rfl rfl) rfl ?_
      refine p_on rfl (by rw [hops114]; rfl) ?_
      refine p_run _ (x_move (.bool true) rfl rfl) rfl ?_
      refine p_run _ (x_pick true (.bool true) (.bool false) (.bool true) rfl rfl rfl rfl rfl) rfl ?_
      refine p_run _ (x_move (.bool true) rfl rfl) rfl ?_
      refine p_on rfl (by rw [hops114]; rfl) ?_
      refine p_run _ (x_field (j := 10) _ _ rfl rfl Try.underlying33 rfl (by rfl) rfl) rfl ?_
      refine p_on rfl (by rw [hops114]; rfl) ?_
      refine p_run (l' := (mgV m A c B d :: .pointer (some ⟨g5, 0, none⟩) :: .bool false :: .bool true :: .bool true :: mgV m A c B d :: .bool true :: .bool false :: V8.l qz105 (V8.l qz106 (.pointer (some ⟨g5, 11, none⟩) :: .slice B m.hvs.length d :: .bool false :: .bool true :: .bool true :: .bool true :: .bool true :: .bool true :: .bool true :: .pointer (some ⟨g5, 10, none⟩) :: .slice A m.its.length c :: U16f2 (undef :: undef :: undef :: []))))) _ (x_load (.slice A m.its.length c) rfl rfl (bkCell (HS.get (.head _)) 10 _ rfl) (by rfl)) rfl ?_
      refine p_on rfl (by rw [hops114]; rfl) ?_
      refine p_run _ (x_len rfl rfl Try.underlying30) rfl ?_
      refine p_on rfl (by rw [hops114]; rfl) ?_
      refine p_run _ (x_cmp (k := .i64) (m := (m.its.length : Int)) (n := 0) .eql false rfl rfl rfl (len_ne h1.1) rfl) rfl ?_
      refine p_on rfl (by rw [hops114]; rfl) ?_
      refine p_run _ (x_move (.bool false) rfl rfl) rfl ?_
      refine p_on rfl (by rw [hops114]; rfl) ?_
      refine p_run _ (x_field (j := 0) _ _ rfl rfl Try.underlying33 rfl (by rfl) rfl) rfl ?_
      refine p_on rfl (by rw [hops114]; rfl) ?_
      refine p_run _ (x_load (.int .i64 m.k) rfl rfl (bkCell (HS.get (.head _)) 0 _ rfl) (by rfl)) rfl ?_
      refine p_on rfl (by rw [hops114]; rfl) ?_
      refine p_run _ (x_cmp (k := .i64) (m := m.k) (n := 3) .eql true rfl rfl rfl (by rw [h1.2]; rfl) rfl) rfl ?_
      refine p_on rfl (by rw [hops114]; rfl) ?_
      refine p_run (l' := (mgV m A c B d :: .pointer (some ⟨g5, 0, none⟩) :: .bool false :: .bool true :: .bool true :: mgV m A c B d :: .bool true :: .bool false :: V8.l qz105 (V8.l qz106 (.pointer (some ⟨g5, 11, none⟩) :: .slice B m.hvs.length d :: .bool false :: .bool true :: .bool true :: .bool true :: .bool true :: .bool true :: .bool true :: .pointer (some ⟨g5, 10, none⟩) :: .slice A m.its.length c :: .int .i64 (m.its.length : Int) :: .bool false :: .bool false :: .pointer (some ⟨g5, 0, none⟩) :: .int .i64 m.k :: .bool true :: .bool true :: U8f2 (U4f2 ([])))))) _ (x_pick false (.bool true) (.bool true) (.bool true) rfl rfl rfl rfl rfl) rfl ?_
      refine p_run _ (x_pick true (.bool true) (.bool false) (.bool true) rfl rfl rfl rfl rfl) rfl ?_
      refine p_run _ (x_move (.bool true) rfl rfl) rfl ?_
      refine p_on rfl (by rw [hops114]; rfl) ?_
      refine p_run _ (x_field (j := 11) _ _ rfl rfl Try.underlying33 rfl (by rfl) rfl) rfl ?_
      refine p_on rfl (by rw [hops114]; rfl) ?_
      refine p_run _ (x_load (.slice B m.hvs.length d) rfl rfl (bkCell (HS.get (.head _)) 11 _ rfl) (by rfl)) rfl ?_
      refine p_on rfl (by rw [hops114]; rfl) ?_
      refine p_run _ (x_len rfl rfl Try.underlying31) rfl ?_
      refine p_on rfl (by rw [hops114]; rfl) ?_
      refine p_run _ (x_cmp (k := .i64) (m := (m.hvs.length : Int)) (n := 0) .eql true rfl rfl rfl (by rw [h2]; rfl) rfl) rfl ?_
      refine p_on rfl (by rw [hops114]; rfl) ?_
      refine p_run (l' := (mgV m A c B d :: .pointer (some ⟨g5, 0, none⟩) :: .bool false :: .bool true :: .bool true :: mgV m A c B d :: .bool true :: .bool false :: V8.l qz105 (V8.l qz106 (.pointer (some ⟨g5, 11, none⟩) :: .slice B m.hvs.length d :: .bool false :: .bool true :: .bool true :: .bool true :: .bool true :: .bool true :: .bool true :: .pointer (some ⟨g5, 10, none⟩) :: .slice A m.its.length c :: .int .i64 (m.its.length : Int) :: .bool false :: .bool false :: .pointer (some ⟨g5, 0, none⟩) :: .int .i64 m.k :: .bool true :: .bool true :: .bool true :: .bool true :: .pointer (some ⟨g5, 11, none⟩) :: .slice B m.hvs.length d :: .int .i64 (m.hvs.length : Int) :: .bool true :: .bool true :: U4f2 (undef :: []))))) _ (x_move (.bool true) rfl rfl) rfl ?_
      refine p_off (by rw [hops114]; rfl) rfl ?_
      refine p_off (by rw [hops114]; rfl) rfl ?_
      refine p_off (by rw [hops114]; rfl) rfl ?_
      refine p_on rfl (by rw [hops114]; rfl) ?_
      refine p_run _ (x_pick true (.bool true) (undef) (.bool true) rfl rfl rfl rfl rfl) rfl ?_
      refine p_run _ (x_pick true (.bool true) (.bool false) (.bool true) rfl rfl rfl rfl rfl) rfl ?_
      refine p_run _ (x_assign (.bool true) rfl rfl) rfl ?_
      clear hops114
      refine wpList_nil ?_
      obtain ⟨qz116, hqz116⟩ : ∃ q_ : V8, q_ = ⟨.pointer (some ⟨g5, 11, none⟩), .slice B m.hvs.length d, .bool false, .bool true, .bool true, .bool true, .bool true, .bool true⟩ := ⟨_, rfl⟩
      obtain ⟨qz117, hqz117⟩ : ∃ q_ : V8, q_ = ⟨.bool true, .pointer (some ⟨g5, 10, none⟩), .slice A m.its.length c, .int .i64 (m.its.length : Int), .bool false, .bool false, .pointer (some ⟨g5, 0, none⟩), .int .i64 m.k⟩ := ⟨_, rfl⟩
      obtain ⟨qz118, hqz118⟩ : ∃ q_ : V8, q_ = ⟨.bool true, .bool true, .bool true, .bool true, .pointer (some ⟨g5, 11, none⟩), .slice B m.hvs.length d, .int .i64 (m.hvs.length : Int), .bool true⟩ := ⟨_, rfl⟩
      refine fr_at (l' := (mgV m A c B d :: .pointer (some ⟨g5, 0, none⟩) :: .bool true :: .bool true :: .bool true :: mgV m A c B d :: .bool true :: .bool false :: V8.l qz105 (V8.l qz106 (V8.l qz116 (V8.l qz117 (V8.l qz118 (.bool true :: undef :: undef :: undef :: .bool true :: .bool true :: []))))))) (by subst hqz116 hqz117 hqz118; rfl) ?_
      refine hK113 _ _ ?_
      refine wp_ret ?_
      try simp only [Exit.inBlock, Exit.then]
      refine c_ret (.bool true) (r_tmp rfl rfl) ?_
      have e1 : mgOk m = true := by
        unfold mgOk
        rw [hn, decide_eq_true hi4, decide_eq_true hh8, hI, hH]; rw [decide_eq_true h1.2, decide_eq_true h2]; simp
      rw [e1]
      exact ⟨rfl, HS.belowOf⟩
    · skip
      refine c_region (fun ops120 hops119 => ?_)
      clear hops119
      refine p_run _ (x_field (j := 10) _ _ rfl rfl Try.underlying33 rfl (by rfl) rfl) rfl ?_
      refine p_run _ (x_load (.slice A m.its.length c) rfl rfl (bkCell (HS.get (.head _)) 10 _ rfl) (by rfl)) rfl ?_
      refine w_call [.slice A m.its.length c, .func (.func 31) #[] [].toArray] Try.func30 (by kernel_rfl) (by rfl) rfl ?_
      refine (conI_any _ A c m.its (Kd.C_below hA HS.belowOf) hl).mono ?_
      rintro e w121 ⟨he_, hb_⟩
      rw [hI] at he_
      subst he_
      replace HS := HS.here hb_
      clear hb_
      refine ⟨_, rfl, ?_⟩
      refine p_run _ (x_not false rfl rfl) rfl ?_
      refine p_run _ (x_assign (.bool true) rfl rfl) rfl ?_
      refine wpList_nil ?_
      obtain ⟨qz122, hqz122⟩ : ∃ q_ : V8, q_ = ⟨.bool false, .pointer (some ⟨g5, 10, none⟩), .slice A m.its.length c, .int .i64 (m.its.length : Int), .bool false, .bool false, .bool false, .pointer (some ⟨g5, 11, none⟩)⟩ := ⟨_, rfl⟩
      obtain ⟨qz123, hqz123⟩ : ∃ q_ : V8, q_ = ⟨.slice B m.hvs.length d, .int .i64 (m.hvs.length : Int), .bool false, .bool false, .pointer (some ⟨g5, 10, none⟩), .slice A m.its.length c, .bool false, .bool true⟩ := ⟨_, rfl⟩
      refine fr_at (l' := (mgV m A c B d :: .pointer (some ⟨g5, 0, none⟩) :: .bool false :: .bool true :: undef :: mgV m A c B d :: .bool true :: .bool false :: V8.l qz122 (V8.l qz123 (U16f2 (U8f2 (U4f2 (undef :: undef :: []))))))) (by subst hqz122 hqz123; rfl) ?_
      refine hK16 _ _ ?_
      refine wp_seq_k (fun K124 hK125 => ?_)
      refine c_region (fun ops127 hops126 => ?_)
      clear hops126
      refine p_run _ (x_field (j := 11) _ _ rfl rfl Try.underlying33 rfl (by rfl) rfl) rfl ?_
      refine p_run _ (x_load (.slice B m.hvs.length d) rfl rfl (bkCell (HS.get (.head _)) 11 _ rfl) (by rfl)) rfl ?_
      refine w_call [.slice B m.hvs.length d, .func (.func 34) #[] [].toArray] Try.func33 (by kernel_rfl) (by rfl) rfl ?_
      refine (conH_any _ B d m.hvs (Kd.C_below hB HS.belowOf) hl2).mono ?_
      rintro e w128 ⟨he_, hb_⟩
      rw [hH] at he_
      subst he_
      replace HS := HS.here hb_
      clear hb_
      refine ⟨_, rfl, ?_⟩
      refine p_run _ (x_not false rfl rfl) rfl ?_
      refine p_run _ (x_assign (.bool true) rfl rfl) rfl ?_
      refine wpList_nil ?_
      refine fr_at (l' := (mgV m A c B d :: .pointer (some ⟨g5, 0, none⟩) :: .bool false :: .bool true :: .bool true :: mgV m A c B d :: .bool true :: .bool false :: V8.l qz122 (V8.l qz123 (.pointer (some ⟨g5, 11, none⟩) :: .slice B m.hvs.length d :: .bool false :: .bool true :: U16f2 (U8f2 (undef :: undef :: [])))))) rfl ?_
      refine hK125 _ _ ?_
      refine wp_seq_k (fun K129 hK130 => ?_)
      refine c_region (fun ops132 hops131 => ?_)
      refine p_run _ (x_move (.bool true) rfl rfl) rfl ?_
      refine p_run _ (x_move (.bool true) rfl rfl) rfl ?_
      refine p_on rfl (by rw [hops131]; rfl) ?_
      refine p_run _ (x_move (.bool true) rfl rfl) rfl ?_
      refine p_run _ (x_pick true (.bool true) (.bool false) (.bool true) rfl rfl rfl rfl rfl) rfl ?_
      refine p_run _ (x_move (.bool true) rfl rfl) rfl ?_
      refine p_on rfl (by rw [hops131]; rfl) ?_
      refine p_run _ (x_field (j := 10) _ _ rfl rfl Try.underlying33 rfl (by rfl) rfl) rfl ?_
      refine p_on rfl (by rw [hops131]; rfl) ?_
      refine p_run (l' := (mgV m A c B d :: .pointer (some ⟨g5, 0, none⟩) :: .bool false :: .bool true :: .bool true :: mgV m A c B d :: .bool true :: .bool false :: V8.l qz122 (V8.l qz123 (.pointer (some ⟨g5, 11, none⟩) :: .slice B m.hvs.length d :: .bool false :: .bool true :: .bool true :: .bool true :: .bool true :: .bool true :: .bool true :: .pointer (some ⟨g5, 10, none⟩) :: .slice A m.its.length c :: U16f2 (undef :: undef :: undef :: []))))) _ (x_load (.slice A m.its.length c) rfl rfl (bkCell (HS.get (.head _)) 10 _ rfl) (by rfl)) rfl ?_
      refine p_on rfl (by rw [hops131]; rfl) ?_
      refine p_run _ (x_len rfl rfl Try.underlying30) rfl ?_
      refine p_on rfl (by rw [hops131]; rfl) ?_
      refine p_run _ (x_cmp (k := .i64) (m := (m.its.length : Int)) (n := 0) .eql false rfl rfl rfl (len_ne h1.1) rfl) rfl ?_
      refine p_on rfl (by rw [hops131]; rfl) ?_
      refine p_run _ (x_move (.bool false) rfl rfl) rfl ?_
      refine p_on rfl (by rw [hops131]; rfl) ?_
      refine p_run _ (x_field (j := 0) _ _ rfl rfl Try.underlying33 rfl (by rfl) rfl) rfl ?_
      refine p_on rfl (by rw [hops131]; rfl) ?_
      refine p_run _ (x_load (.int .i64 m.k) rfl rfl (bkCell (HS.get (.head _)) 0 _ rfl) (by rfl)) rfl ?_
      refine p_on rfl (by rw [hops131]; rfl) ?_
      refine p_run _ (x_cmp (k := .i64) (m := m.k) (n := 3) .eql true rfl rfl rfl (by rw [h1.2]; rfl) rfl) rfl ?_
      refine p_on rfl (by rw [hops131]; rfl) ?_
      refine p_run (l' := (mgV m A c B d :: .pointer (some ⟨g5, 0, none⟩) :: .bool false :: .bool true :: .bool true :: mgV m A c B d :: .bool true :: .bool false :: V8.l qz122 (V8.l qz123 (.pointer (some ⟨g5, 11, none⟩) :: .slice B m.hvs.length d :: .bool false :: .bool true :: .bool true :: .bool true :: .bool true :: .bool true :: .bool true :: .pointer (some ⟨g5, 10, none⟩) :: .slice A m.its.length c :: .int .i64 (m.its.length : Int) :: .bool false :: .bool false :: .pointer (some ⟨g5, 0, none⟩) :: .int .i64 m.k :: .bool true :: .bool true :: U8f2 (U4f2 ([])))))) _ (x_pick false (.bool true) (.bool true) (.bool true) rfl rfl rfl rfl rfl) rfl ?_
      refine p_run _ (x_pick true (.bool true) (.bool false) (.bool true) rfl rfl rfl rfl rfl) rfl ?_
      refine p_run _ (x_move (.bool true) rfl rfl) rfl ?_
      refine p_on rfl (by rw [hops131]; rfl) ?_
      refine p_run _ (x_field (j := 11) _ _ rfl rfl Try.underlying33 rfl (by rfl) rfl) rfl ?_
      refine p_on rfl (by rw [hops131]; rfl) ?_
      refine p_run _ (x_load (.slice B m.hvs.length d) rfl rfl (bkCell (HS.get (.head _)) 11 _ rfl) (by rfl)) rfl ?_
      refine p_on rfl (by rw [hops131]; rfl) ?_
      refine p_run _ (x_len rfl rfl Try.underlying31) rfl ?_
      refine p_on rfl (by rw [hops131]; rfl) ?_
      refine p_run _ (x_cmp (k := .i64) (m := (m.hvs.length : Int)) (n := 0) .eql false rfl rfl rfl (len_ne h2) rfl) rfl ?_
      refine p_on rfl (by rw [hops131]; rfl) ?_
      refine p_run (l' := (mgV m A c B d :: .pointer (some ⟨g5, 0, none⟩) :: .bool false :: .bool true :: .bool true :: mgV m A c B d :: .bool true :: .bool false :: V8.l qz122 (V8.l qz123 (.pointer (some ⟨g5, 11, none⟩) :: .slice B m.hvs.length d :: .bool false :: .bool true :: .bool true :: .bool true :: .bool true :: .bool true :: .bool true :: .pointer (some ⟨g5, 10, none⟩) :: .slice A m.its.length c :: .int .i64 (m.its.length : Int) :: .bool false :: .bool false :: .pointer (some ⟨g5, 0, none⟩) :: .int .i64 m.k :: .bool true :: .bool true :: .bool true :: .bool true :: .pointer (some ⟨g5, 11, none⟩) :: .slice B m.hvs.length d :: .int .i64 (m.hvs.length : Int) :: .bool false :: .bool false :: U4f2 (undef :: []))))) _ (x_move (.bool false) rfl rfl) rfl ?_
      refine p_on rfl (by rw [hops131]; rfl) ?_
      refine p_run _ (x_field (j := 0) _ _ rfl rfl Try.underlying33 rfl (by rfl) rfl) rfl ?_
      refine p_on rfl (by rw [hops131]; rfl) ?_
      refine p_run _ (x_load (.int .i64 m.k) rfl rfl (bkCell (HS.get (.head _)) 0 _ rfl) (by rfl)) rfl ?_
      refine p_on rfl (by rw [hops131]; rfl) ?_
      refine p_run _ (x_cmp (k := .i64) (m := m.k) (n := 2) .eql (m.k == 2) rfl rfl rfl rfl rfl) rfl ?_
      refine p_on rfl (by rw [hops131]; rfl) ?_
      refine p_run _ (x_pick false (.bool true) (.bool (m.k == 2)) (.bool (m.k == 2)) rfl rfl rfl rfl rfl) rfl ?_
      refine p_run _ (x_pick true (.bool (m.k == 2)) (.bool false) (.bool (m.k == 2)) rfl rfl rfl rfl rfl) rfl ?_
      refine p_run _ (x_assign (.bool (m.k == 2)) rfl rfl) rfl ?_
      clear hops131
      refine wpList_nil ?_
      obtain ⟨qz133, hqz133⟩ : ∃ q_ : V8, q_ = ⟨.pointer (some ⟨g5, 11, none⟩), .slice B m.hvs.length d, .bool false, .bool true, .bool true, .bool true, .bool true, .bool true⟩ := ⟨_, rfl⟩
      obtain ⟨qz134, hqz134⟩ : ∃ q_ : V8, q_ = ⟨.bool true, .pointer (some ⟨g5, 10, none⟩), .slice A m.its.length c, .int .i64 (m.its.length : Int), .bool false, .bool false, .pointer (some ⟨g5, 0, none⟩), .int .i64 m.k⟩ := ⟨_, rfl⟩
      obtain ⟨qz135, hqz135⟩ : ∃ q_ : V8, q_ = ⟨.bool true, .bool true, .bool true, .bool true, .pointer (some ⟨g5, 11, none⟩), .slice B m.hvs.length d, .int .i64 (m.hvs.length : Int), .bool false⟩ := ⟨_, rfl⟩
      refine fr_at (l' := (mgV m A c B d :: .pointer (some ⟨g5, 0, none⟩) :: .bool (m.k == 2) :: .bool true :: .bool true :: mgV m A c B d :: .bool true :: .bool false :: V8.l qz122 (V8.l qz123 (V8.l qz133 (V8.l qz134 (V8.l qz135 (.bool false :: .pointer (some ⟨g5, 0, none⟩) :: .int .i64 m.k :: .bool (m.k == 2) :: .bool (m.k == 2) :: .bool (m.k == 2) :: []))))))) (by subst hqz133 hqz134 hqz135; rfl) ?_
      refine hK130 _ _ ?_
      refine wp_ret ?_
      try simp only [Exit.inBlock, Exit.then]
      refine c_ret (.bool (m.k == 2)) (r_tmp rfl rfl) ?_
      have e1 : mgOk m = (m.k == 2) := by
        unfold mgOk
        rw [hn, decide_eq_true hi4, decide_eq_true hh8, hI, hH]; rw [decide_eq_true h1.2, decide_eq_false h2]; first | (simp; done) | (simp; rfl)
      rw [e1]
      exact ⟨rfl, HS.belowOf⟩
end Go.Proofs.Ytmachdikonelbaa
