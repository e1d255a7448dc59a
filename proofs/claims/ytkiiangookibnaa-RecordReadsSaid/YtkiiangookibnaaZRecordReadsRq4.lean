/- The document's Read of states. -/
import Derived.Test.YtkiiangookibnaaZRecordReadsRg3
import Derived.Test.YtkiiangookibnaaZRecordReadsRk3
set_option linter.unusedVariables false
set_option linter.unusedSimpArgs false
namespace Go.Proofs.Ytkiiangookibnaa
open Go.RowKit Go.Proofs.YtkiiangookibnaaW.PrintWords Go.Proofs.YtkiiangookibnaaW.PrintLast
abbrev U4n4 (l : List Value) : List Value := undef :: undef :: undef :: undef :: l
abbrev U8n4 (l : List Value) : List Value := U4n4 (U4n4 l)
abbrev U16n4 (l : List Value) : List Value := U8n4 (U8n4 l)
abbrev U32n4 (l : List Value) : List Value := U16n4 (U16n4 l)
abbrev U64n4 (l : List Value) : List Value := U32n4 (U32n4 l)
theorem rg_seq {a b : List UInt8} : ((strB a).toList == (strB b).toList) = decide (a = b) := by
  rw [strB_list, strB_list]
  by_cases e : a = b
  · rw [e]; simp
  · simp [e]
set_option maxRecDepth 10000 in
set_option maxHeartbeats 8000000 in
theorem r14read_any (w : World) (A : Option Addr) (c : Nat) (b : List UInt8) (hr : Sl w A c b) (hl : b.length ≤ 100000) : Calls Try.prog 12 #[.slice A b.length c] w fun e w' => ∃ A1 c1, e = .returned (.tuple #[rcV (rkM b) A1 c1, .int .i64 (rkE b)]) ∧ St w (fun _ => False) w' [row kSn rfl 48 (.slice A1 (rkM b).sn.length c1) (rkM b).sn] := by
  have HS := St.empty w
  · skip
    refine c_enter Try.func12 rfl 113 rfl (.slice A b.length c :: U64n4 (U32n4 (U16n4 ([])))) rfl ?_
    refine wp_seq_k (fun K1 hK2 => ?_)
    refine c_region (fun ops4 hops3 => ?_)
    clear hops3
    refine St.wAlloc HS (cs := (.int .u32 0 :: .bool false :: .int .u32 0 :: .int .u32 0 :: .int .i64 0 :: .int .u32 0 :: .int .u32 0 :: .slice none 0 0 :: .int .u64 0 :: .int .u32 0 :: .int .u32 0 :: .int .u32 0 :: .int .u32 0 :: .int .i64 0 :: .int .i64 0 :: .int .i64 0 :: [])) (.agg (.int .u32 0 :: .bool false :: .int .u32 0 :: .int .u32 0 :: .int .i64 0 :: .int .u32 0 :: .int .u32 0 :: .slice none 0 0 :: .int .u64 0 :: .int .u32 0 :: .int .u32 0 :: .int .u32 0 :: .int .u32 0 :: .int .i64 0 :: .int .i64 0 :: .int .i64 0 :: []).toArray) (by kernel_rfl) rfl ?_
    clear HS
    intro g5 w6 hg7 HS
    refine p_run _ (x_assign (.int .i64 0) rfl rfl) rfl ?_
    refine wpList_nil ?_
    refine hK2 _ _ ?_
    refine wp_seq_k (fun K8 hK9 => ?_)
    refine c_region (fun ops11 hops10 => ?_)
    clear hops10
    refine p_run _ (x_move (.slice A b.length c) rfl rfl) rfl ?_
    refine p_run _ (x_build [.slice A b.length c, .int .i64 0, .bool false] rfl (by kernel_rfl)) rfl ?_
    refine St.wBox HS (cs := [.slice A b.length c, .int .i64 0, .bool false]) (.agg ([.slice A b.length c, .int .i64 0, .bool false] : List Value).toArray) rfl rfl ?_
    clear HS
    intro g12 w13 hg14 HS
    refine p_run _ (x_assign (.pointer (some ⟨g12, 0, none⟩)) rfl rfl) rfl ?_
    refine wpList_nil ?_
    refine fr_at (l' := (.slice A b.length c :: undef :: .pointer (some ⟨g5, 0, none⟩) :: .int .i64 0 :: .pointer (some ⟨g12, 0, none⟩) :: U4n4 (undef :: undef :: .slice A b.length c :: .agg ([.slice A b.length c, .int .i64 0, .bool false] : List Value).toArray :: .pointer (some ⟨g12, 0, none⟩) :: U64n4 (U32n4 (undef :: undef :: undef :: []))))) rfl ?_
    refine hK9 _ _ ?_
    refine wp_seq_k (fun K15 hK16 => ?_)
    refine c_region (fun ops18 hops17 => ?_)
    clear hops17
    refine p_run _ (x_build (.int .u32 0 :: .bool false :: .int .u32 0 :: .int .u32 0 :: .int .i64 0 :: .int .u32 0 :: .int .u32 0 :: .slice none 0 0 :: .int .u64 0 :: .int .u32 0 :: .int .u32 0 :: .int .u32 0 :: .int .u32 0 :: .int .i64 0 :: .int .i64 0 :: .int .i64 0 :: []) rfl (by kernel_rfl)) rfl ?_
    refine St.wAlloc HS (cs := (.int .u32 0 :: .bool false :: .int .u32 0 :: .int .u32 0 :: .int .i64 0 :: .int .u32 0 :: .int .u32 0 :: .slice none 0 0 :: .int .u64 0 :: .int .u32 0 :: .int .u32 0 :: .int .u32 0 :: .int .u32 0 :: .int .i64 0 :: .int .i64 0 :: .int .i64 0 :: [])) (.agg (.int .u32 0 :: .bool false :: .int .u32 0 :: .int .u32 0 :: .int .i64 0 :: .int .u32 0 :: .int .u32 0 :: .slice none 0 0 :: .int .u64 0 :: .int .u32 0 :: .int .u32 0 :: .int .u32 0 :: .int .u32 0 :: .int .i64 0 :: .int .i64 0 :: .int .i64 0 :: []).toArray) (by kernel_rfl) rfl ?_
    clear HS
    intro g19 w20 hg21 HS
    refine St.stores (cs' := (.int .u32 0 :: .bool false :: .int .u32 0 :: .int .u32 0 :: .int .i64 0 :: .int .u32 0 :: .int .u32 0 :: .slice none 0 0 :: .int .u64 0 :: .int .u32 0 :: .int .u32 0 :: .int .u32 0 :: .int .u32 0 :: .int .i64 0 :: .int .i64 0 :: .int .i64 0 :: [])) HS (.int .u32 0 :: .bool false :: .int .u32 0 :: .int .u32 0 :: .int .i64 0 :: .int .u32 0 :: .int .u32 0 :: .slice none 0 0 :: .int .u64 0 :: .int .u32 0 :: .int .u32 0 :: .int .u32 0 :: .int .u32 0 :: .int .i64 0 :: .int .i64 0 :: .int .i64 0 :: []) 16 rfl rfl (by rfl) (by kernel_rfl) rfl (by simp) rfl ?_
    clear HS
    intro w22 HS
    refine wpList_nil ?_
    refine hK16 _ _ ?_
    refine wp_seq_k (fun K23 hK24 => ?_)
    refine c_region (fun ops26 hops25 => ?_)
    clear hops25
    refine p_run _ (x_move (.pointer (some ⟨g12, 0, none⟩)) rfl rfl) rfl ?_
    refine w_call [.pointer (some ⟨g12, 0, none⟩), .int .i64 4] Try.func31 (by kernel_rfl) (by rfl) rfl ?_
    replace HS := (HS.front 1 rfl)
    refine (r18num_any (s := (b, false)) (at_ := 0) HS hr hl ⟨rfl, Nat.zero_le _⟩ (n := 4) (.inr (.inl rfl))).mono ?_
    clear HS
    rintro e w29 ⟨at27, rfl, hat28, HS⟩
    replace HS : St w (fun _ => False) w29 ([blk g12 [.slice A b.length c, .int .i64 (at27 : Int), .bool ((k1 b).2)] 71, blk g19 (.int .u32 0 :: .bool false :: .int .u32 0 :: .int .u32 0 :: .int .i64 0 :: .int .u32 0 :: .int .u32 0 :: .slice none 0 0 :: .int .u64 0 :: .int .u32 0 :: .int .u32 0 :: .int .u32 0 :: .int .u32 0 :: .int .i64 0 :: .int .i64 0 :: .int .i64 0 :: []) 34, blk g5 (.int .u32 0 :: .bool false :: .int .u32 0 :: .int .u32 0 :: .int .i64 0 :: .int .u32 0 :: .int .u32 0 :: .slice none 0 0 :: .int .u64 0 :: .int .u32 0 :: .int .u32 0 :: .int .u32 0 :: .int .u32 0 :: .int .i64 0 :: .int .i64 0 :: .int .i64 0 :: []) 34]) := HS
    refine ⟨_, rfl, ?_⟩
    refine p_run _ (x_conv (k := .u64) (m := (rn 4 (b, false))) .u32 ((rn 4 (b, false))) rfl (by rw [Try.underlying30]; rfl) Try.underlying26 rfl (wu32 (bd4 _))) rfl ?_
    refine p_run _ (x_field (j := 0) _ _ rfl rfl Try.underlying34 rfl (by rfl) rfl) rfl ?_
    refine St.store (cs' := (.int .u32 (rn 4 (b, false)) :: .bool false :: .int .u32 0 :: .int .u32 0 :: .int .i64 0 :: .int .u32 0 :: .int .u32 0 :: .slice none 0 0 :: .int .u64 0 :: .int .u32 0 :: .int .u32 0 :: .int .u32 0 :: .int .u32 0 :: .int .i64 0 :: .int .i64 0 :: .int .i64 0 :: [])) (HS.front 1 rfl) (.int .u32 (rn 4 (b, false))) rfl rfl rfl (by kernel_rfl) (by rfl) rfl ?_
    clear HS
    intro w30 HS
    refine wpList_nil ?_
    refine fr_at (l' := (.slice A b.length c :: undef :: .pointer (some ⟨g5, 0, none⟩) :: .int .i64 0 :: .pointer (some ⟨g12, 0, none⟩) :: .pointer (some ⟨g19, 0, none⟩) :: U4n4 (undef :: .slice A b.length c :: .agg ([.slice A b.length c, .int .i64 0, .bool false] : List Value).toArray :: .pointer (some ⟨g12, 0, none⟩) :: .agg ((.int .u32 0 :: .bool false :: .int .u32 0 :: .int .u32 0 :: .int .i64 0 :: .int .u32 0 :: .int .u32 0 :: .slice none 0 0 :: .int .u64 0 :: .int .u32 0 :: .int .u32 0 :: .int .u32 0 :: .int .u32 0 :: .int .i64 0 :: .int .i64 0 :: .int .i64 0 :: []) : List Value).toArray :: .pointer (some ⟨g12, 0, none⟩) :: .int .u64 (rn 4 (b, false)) :: .int .u32 (rn 4 (b, false)) :: .pointer (some ⟨g19, 0, none⟩) :: U64n4 (U16n4 (U8n4 (U4n4 (undef :: undef :: []))))))) rfl ?_
    refine hK24 _ _ ?_
    refine wp_seq_k (fun K31 hK32 => ?_)
    refine c_region (fun ops34 hops33 => ?_)
    clear hops33
    refine p_run _ (x_move (.pointer (some ⟨g12, 0, none⟩)) rfl rfl) rfl ?_
    refine w_call [.pointer (some ⟨g12, 0, none⟩), .int .i64 1] Try.func31 (by kernel_rfl) (by rfl) rfl ?_
    replace HS := (HS.front 1 rfl)
    refine (r18num_any (s := (k1 b)) (at_ := at27) HS hr hl hat28 (n := 1) (.inl rfl)).mono ?_
    clear HS
    rintro e w37 ⟨at35, rfl, hat36, HS⟩
    replace HS : St w (fun _ => False) w37 ([blk g12 [.slice A b.length c, .int .i64 (at35 : Int), .bool ((k2 b).2)] 71, blk g19 (.int .u32 (rn 4 (b, false)) :: .bool false :: .int .u32 0 :: .int .u32 0 :: .int .i64 0 :: .int .u32 0 :: .int .u32 0 :: .slice none 0 0 :: .int .u64 0 :: .int .u32 0 :: .int .u32 0 :: .int .u32 0 :: .int .u32 0 :: .int .i64 0 :: .int .i64 0 :: .int .i64 0 :: []) 34, blk g5 (.int .u32 0 :: .bool false :: .int .u32 0 :: .int .u32 0 :: .int .i64 0 :: .int .u32 0 :: .int .u32 0 :: .slice none 0 0 :: .int .u64 0 :: .int .u32 0 :: .int .u32 0 :: .int .u32 0 :: .int .u32 0 :: .int .i64 0 :: .int .i64 0 :: .int .i64 0 :: []) 34]) := HS
    refine ⟨_, rfl, ?_⟩
    refine p_run _ (x_cmp (k := .u64) (m := (rn 1 (k1 b))) (n := 1) .eql ((rn 1 (k1 b)) == 1) rfl rfl rfl rfl rfl) rfl ?_
    refine p_run _ (x_field (j := 1) _ _ rfl rfl Try.underlying34 rfl (by rfl) rfl) rfl ?_
    refine St.store (cs' := (.int .u32 (rn 4 (b, false)) :: .bool ((rn 1 (k1 b)) == 1) :: .int .u32 0 :: .int .u32 0 :: .int .i64 0 :: .int .u32 0 :: .int .u32 0 :: .slice none 0 0 :: .int .u64 0 :: .int .u32 0 :: .int .u32 0 :: .int .u32 0 :: .int .u32 0 :: .int .i64 0 :: .int .i64 0 :: .int .i64 0 :: [])) (HS.front 1 rfl) (.bool ((rn 1 (k1 b)) == 1)) rfl rfl rfl (by kernel_rfl) (by rfl) rfl ?_
    clear HS
    intro w38 HS
    refine wpList_nil ?_
    refine fr_at (l' := (.slice A b.length c :: undef :: .pointer (some ⟨g5, 0, none⟩) :: .int .i64 0 :: .pointer (some ⟨g12, 0, none⟩) :: .pointer (some ⟨g19, 0, none⟩) :: U4n4 (undef :: .slice A b.length c :: .agg ([.slice A b.length c, .int .i64 0, .bool false] : List Value).toArray :: .pointer (some ⟨g12, 0, none⟩) :: .agg ((.int .u32 0 :: .bool false :: .int .u32 0 :: .int .u32 0 :: .int .i64 0 :: .int .u32 0 :: .int .u32 0 :: .slice none 0 0 :: .int .u64 0 :: .int .u32 0 :: .int .u32 0 :: .int .u32 0 :: .int .u32 0 :: .int .i64 0 :: .int .i64 0 :: .int .i64 0 :: []) : List Value).toArray :: .pointer (some ⟨g12, 0, none⟩) :: .int .u64 (rn 4 (b, false)) :: .int .u32 (rn 4 (b, false)) :: .pointer (some ⟨g19, 0, none⟩) :: .pointer (some ⟨g12, 0, none⟩) :: .int .u64 (rn 1 (k1 b)) :: .bool ((rn 1 (k1 b)) == 1) :: .pointer (some ⟨g19, 1, none⟩) :: U64n4 (U16n4 (U8n4 (undef :: undef :: [])))))) rfl ?_
    refine hK32 _ _ ?_
    refine wp_seq_k (fun K39 hK40 => ?_)
    refine c_region (fun ops42 hops41 => ?_)
    clear hops41
    refine p_run _ (x_move (.pointer (some ⟨g12, 0, none⟩)) rfl rfl) rfl ?_
    refine w_call [.pointer (some ⟨g12, 0, none⟩), .int .i64 4] Try.func31 (by kernel_rfl) (by rfl) rfl ?_
    replace HS := (HS.front 1 rfl)
    refine (r18num_any (s := (k2 b)) (at_ := at35) HS hr hl hat36 (n := 4) (.inr (.inl rfl))).mono ?_
    clear HS
    rintro e w45 ⟨at43, rfl, hat44, HS⟩
    replace HS : St w (fun _ => False) w45 ([blk g12 [.slice A b.length c, .int .i64 (at43 : Int), .bool ((k3 b).2)] 71, blk g19 (.int .u32 (rn 4 (b, false)) :: .bool ((rn 1 (k1 b)) == 1) :: .int .u32 0 :: .int .u32 0 :: .int .i64 0 :: .int .u32 0 :: .int .u32 0 :: .slice none 0 0 :: .int .u64 0 :: .int .u32 0 :: .int .u32 0 :: .int .u32 0 :: .int .u32 0 :: .int .i64 0 :: .int .i64 0 :: .int .i64 0 :: []) 34, blk g5 (.int .u32 0 :: .bool false :: .int .u32 0 :: .int .u32 0 :: .int .i64 0 :: .int .u32 0 :: .int .u32 0 :: .slice none 0 0 :: .int .u64 0 :: .int .u32 0 :: .int .u32 0 :: .int .u32 0 :: .int .u32 0 :: .int .i64 0 :: .int .i64 0 :: .int .i64 0 :: []) 34]) := HS
    refine ⟨_, rfl, ?_⟩
    refine p_run _ (x_conv (k := .u64) (m := (rn 4 (k2 b))) .u32 ((rn 4 (k2 b))) rfl (by rw [Try.underlying30]; rfl) Try.underlying26 rfl (wu32 (bd4 _))) rfl ?_
    refine p_run _ (x_field (j := 2) _ _ rfl rfl Try.underlying34 rfl (by rfl) rfl) rfl ?_
    refine St.store (cs' := (.int .u32 (rn 4 (b, false)) :: .bool ((rn 1 (k1 b)) == 1) :: .int .u32 (rn 4 (k2 b)) :: .int .u32 0 :: .int .i64 0 :: .int .u32 0 :: .int .u32 0 :: .slice none 0 0 :: .int .u64 0 :: .int .u32 0 :: .int .u32 0 :: .int .u32 0 :: .int .u32 0 :: .int .i64 0 :: .int .i64 0 :: .int .i64 0 :: [])) (HS.front 1 rfl) (.int .u32 (rn 4 (k2 b))) rfl rfl rfl (by kernel_rfl) (by rfl) rfl ?_
    clear HS
    intro w46 HS
    refine wpList_nil ?_
    obtain ⟨qz47, hqz47⟩ : ∃ q_ : V8, q_ = ⟨.int .u64 (rn 4 (b, false)), .int .u32 (rn 4 (b, false)), .pointer (some ⟨g19, 0, none⟩), .pointer (some ⟨g12, 0, none⟩), .int .u64 (rn 1 (k1 b)), .bool ((rn 1 (k1 b)) == 1), .pointer (some ⟨g19, 1, none⟩), .pointer (some ⟨g12, 0, none⟩)⟩ := ⟨_, rfl⟩
    refine fr_at (l' := (.slice A b.length c :: undef :: .pointer (some ⟨g5, 0, none⟩) :: .int .i64 0 :: .pointer (some ⟨g12, 0, none⟩) :: .pointer (some ⟨g19, 0, none⟩) :: U4n4 (undef :: .slice A b.length c :: .agg ([.slice A b.length c, .int .i64 0, .bool false] : List Value).toArray :: .pointer (some ⟨g12, 0, none⟩) :: .agg ((.int .u32 0 :: .bool false :: .int .u32 0 :: .int .u32 0 :: .int .i64 0 :: .int .u32 0 :: .int .u32 0 :: .slice none 0 0 :: .int .u64 0 :: .int .u32 0 :: .int .u32 0 :: .int .u32 0 :: .int .u32 0 :: .int .i64 0 :: .int .i64 0 :: .int .i64 0 :: []) : List Value).toArray :: .pointer (some ⟨g12, 0, none⟩) :: V8.l qz47 (.int .u64 (rn 4 (k2 b)) :: .int .u32 (rn 4 (k2 b)) :: .pointer (some ⟨g19, 2, none⟩) :: U64n4 (U16n4 (U4n4 (undef :: undef :: []))))))) (by subst hqz47; rfl) ?_
    refine hK40 _ _ ?_
    refine wp_seq_k (fun K48 hK49 => ?_)
    refine c_region (fun ops51 hops50 => ?_)
    clear hops50
    refine p_run _ (x_move (.pointer (some ⟨g12, 0, none⟩)) rfl rfl) rfl ?_
    refine w_call [.pointer (some ⟨g12, 0, none⟩), .int .i64 4] Try.func31 (by kernel_rfl) (by rfl) rfl ?_
    replace HS := (HS.front 1 rfl)
    refine (r18num_any (s := (k3 b)) (at_ := at43) HS hr hl hat44 (n := 4) (.inr (.inl rfl))).mono ?_
    clear HS
    rintro e w54 ⟨at52, rfl, hat53, HS⟩
    replace HS : St w (fun _ => False) w54 ([blk g12 [.slice A b.length c, .int .i64 (at52 : Int), .bool ((k4 b).2)] 71, blk g19 (.int .u32 (rn 4 (b, false)) :: .bool ((rn 1 (k1 b)) == 1) :: .int .u32 (rn 4 (k2 b)) :: .int .u32 0 :: .int .i64 0 :: .int .u32 0 :: .int .u32 0 :: .slice none 0 0 :: .int .u64 0 :: .int .u32 0 :: .int .u32 0 :: .int .u32 0 :: .int .u32 0 :: .int .i64 0 :: .int .i64 0 :: .int .i64 0 :: []) 34, blk g5 (.int .u32 0 :: .bool false :: .int .u32 0 :: .int .u32 0 :: .int .i64 0 :: .int .u32 0 :: .int .u32 0 :: .slice none 0 0 :: .int .u64 0 :: .int .u32 0 :: .int .u32 0 :: .int .u32 0 :: .int .u32 0 :: .int .i64 0 :: .int .i64 0 :: .int .i64 0 :: []) 34]) := HS
    refine ⟨_, rfl, ?_⟩
    refine p_run _ (x_conv (k := .u64) (m := (rn 4 (k3 b))) .u32 ((rn 4 (k3 b))) rfl (by rw [Try.underlying30]; rfl) Try.underlying26 rfl (wu32 (bd4 _))) rfl ?_
    refine p_run _ (x_field (j := 3) _ _ rfl rfl Try.underlying34 rfl (by rfl) rfl) rfl ?_
    refine St.store (cs' := (.int .u32 (rn 4 (b, false)) :: .bool ((rn 1 (k1 b)) == 1) :: .int .u32 (rn 4 (k2 b)) :: .int .u32 (rn 4 (k3 b)) :: .int .i64 0 :: .int .u32 0 :: .int .u32 0 :: .slice none 0 0 :: .int .u64 0 :: .int .u32 0 :: .int .u32 0 :: .int .u32 0 :: .int .u32 0 :: .int .i64 0 :: .int .i64 0 :: .int .i64 0 :: [])) (HS.front 1 rfl) (.int .u32 (rn 4 (k3 b))) rfl rfl rfl (by kernel_rfl) (by rfl) rfl ?_
    clear HS
    intro w55 HS
    refine wpList_nil ?_
    refine fr_at (l' := (.slice A b.length c :: undef :: .pointer (some ⟨g5, 0, none⟩) :: .int .i64 0 :: .pointer (some ⟨g12, 0, none⟩) :: .pointer (some ⟨g19, 0, none⟩) :: U4n4 (undef :: .slice A b.length c :: .agg ([.slice A b.length c, .int .i64 0, .bool false] : List Value).toArray :: .pointer (some ⟨g12, 0, none⟩) :: .agg ((.int .u32 0 :: .bool false :: .int .u32 0 :: .int .u32 0 :: .int .i64 0 :: .int .u32 0 :: .int .u32 0 :: .slice none 0 0 :: .int .u64 0 :: .int .u32 0 :: .int .u32 0 :: .int .u32 0 :: .int .u32 0 :: .int .i64 0 :: .int .i64 0 :: .int .i64 0 :: []) : List Value).toArray :: .pointer (some ⟨g12, 0, none⟩) :: V8.l qz47 (.int .u64 (rn 4 (k2 b)) :: .int .u32 (rn 4 (k2 b)) :: .pointer (some ⟨g19, 2, none⟩) :: .pointer (some ⟨g12, 0, none⟩) :: .int .u64 (rn 4 (k3 b)) :: .int .u32 (rn 4 (k3 b)) :: .pointer (some ⟨g19, 3, none⟩) :: U64n4 (U16n4 (undef :: undef :: [])))))) rfl ?_
    refine hK49 _ _ ?_
    refine wp_seq_k (fun K56 hK57 => ?_)
    refine c_region (fun ops59 hops58 => ?_)
    clear hops58
    refine p_run _ (x_move (.pointer (some ⟨g12, 0, none⟩)) rfl rfl) rfl ?_
    refine w_call [.pointer (some ⟨g12, 0, none⟩), .int .i64 1] Try.func31 (by kernel_rfl) (by rfl) rfl ?_
    replace HS := (HS.front 1 rfl)
    refine (r18num_any (s := (k4 b)) (at_ := at52) HS hr hl hat53 (n := 1) (.inl rfl)).mono ?_
    clear HS
    rintro e w62 ⟨at60, rfl, hat61, HS⟩
    replace HS : St w (fun _ => False) w62 ([blk g12 [.slice A b.length c, .int .i64 (at60 : Int), .bool ((k5 b).2)] 71, blk g19 (.int .u32 (rn 4 (b, false)) :: .bool ((rn 1 (k1 b)) == 1) :: .int .u32 (rn 4 (k2 b)) :: .int .u32 (rn 4 (k3 b)) :: .int .i64 0 :: .int .u32 0 :: .int .u32 0 :: .slice none 0 0 :: .int .u64 0 :: .int .u32 0 :: .int .u32 0 :: .int .u32 0 :: .int .u32 0 :: .int .i64 0 :: .int .i64 0 :: .int .i64 0 :: []) 34, blk g5 (.int .u32 0 :: .bool false :: .int .u32 0 :: .int .u32 0 :: .int .i64 0 :: .int .u32 0 :: .int .u32 0 :: .slice none 0 0 :: .int .u64 0 :: .int .u32 0 :: .int .u32 0 :: .int .u32 0 :: .int .u32 0 :: .int .i64 0 :: .int .i64 0 :: .int .i64 0 :: []) 34]) := HS
    refine ⟨_, rfl, ?_⟩
    refine p_run _ (x_conv (k := .u64) (m := (rn 1 (k4 b))) .i64 ((rn 1 (k4 b))) rfl (by rw [Try.underlying30]; rfl) Try.underlying3 rfl (wr64' (by have := bd1 (k4 b); omega))) rfl ?_
    refine p_run _ (x_arith (k := .i64) (m := (rn 1 (k4 b))) (n := 1) .sub ((rn 1 (k4 b) - 1)) rfl rfl rfl (show IntKind.i64.wrap ((rn 1 (k4 b)) - 1) = (rn 1 (k4 b) - 1) from (wr64' (by have := bd1 (k4 b); omega))) rfl) rfl ?_
    refine p_run _ (x_field (j := 4) _ _ rfl rfl Try.underlying34 rfl (by rfl) rfl) rfl ?_
    refine St.store (cs' := (.int .u32 (rn 4 (b, false)) :: .bool ((rn 1 (k1 b)) == 1) :: .int .u32 (rn 4 (k2 b)) :: .int .u32 (rn 4 (k3 b)) :: .int .i64 (rn 1 (k4 b) - 1) :: .int .u32 0 :: .int .u32 0 :: .slice none 0 0 :: .int .u64 0 :: .int .u32 0 :: .int .u32 0 :: .int .u32 0 :: .int .u32 0 :: .int .i64 0 :: .int .i64 0 :: .int .i64 0 :: [])) (HS.front 1 rfl) (.int .i64 (rn 1 (k4 b) - 1)) rfl rfl rfl (by kernel_rfl) (by rfl) rfl ?_
    clear HS
    intro w63 HS
    refine wpList_nil ?_
    obtain ⟨qz64, hqz64⟩ : ∃ q_ : V8, q_ = ⟨.int .u64 (rn 4 (k2 b)), .int .u32 (rn 4 (k2 b)), .pointer (some ⟨g19, 2, none⟩), .pointer (some ⟨g12, 0, none⟩), .int .u64 (rn 4 (k3 b)), .int .u32 (rn 4 (k3 b)), .pointer (some ⟨g19, 3, none⟩), .pointer (some ⟨g12, 0, none⟩)⟩ := ⟨_, rfl⟩
    refine fr_at (l' := (.slice A b.length c :: undef :: .pointer (some ⟨g5, 0, none⟩) :: .int .i64 0 :: .pointer (some ⟨g12, 0, none⟩) :: .pointer (some ⟨g19, 0, none⟩) :: U4n4 (undef :: .slice A b.length c :: .agg ([.slice A b.length c, .int .i64 0, .bool false] : List Value).toArray :: .pointer (some ⟨g12, 0, none⟩) :: .agg ((.int .u32 0 :: .bool false :: .int .u32 0 :: .int .u32 0 :: .int .i64 0 :: .int .u32 0 :: .int .u32 0 :: .slice none 0 0 :: .int .u64 0 :: .int .u32 0 :: .int .u32 0 :: .int .u32 0 :: .int .u32 0 :: .int .i64 0 :: .int .i64 0 :: .int .i64 0 :: []) : List Value).toArray :: .pointer (some ⟨g12, 0, none⟩) :: V8.l qz47 (V8.l qz64 (.int .u64 (rn 1 (k4 b)) :: .int .i64 (rn 1 (k4 b)) :: .int .i64 (rn 1 (k4 b) - 1) :: .pointer (some ⟨g19, 4, none⟩) :: U64n4 (U8n4 (U4n4 (undef :: [])))))))) (by subst hqz64; rfl) ?_
    refine hK57 _ _ ?_
    refine wp_seq_k (fun K65 hK66 => ?_)
    refine c_region (fun ops68 hops67 => ?_)
    clear hops67
    refine p_run _ (x_move (.pointer (some ⟨g12, 0, none⟩)) rfl rfl) rfl ?_
    refine w_call [.pointer (some ⟨g12, 0, none⟩)] Try.func32 (by kernel_rfl) (by rfl) rfl ?_
    replace HS := (HS.front 1 rfl)
    refine (r18lab_any (s := (k5 b)) (at_ := at60) HS hr hl hat61).mono ?_
    clear HS
    rintro e w71 ⟨at69, rfl, hat70, HS⟩
    replace HS : St w (fun _ => False) w71 ([blk g12 [.slice A b.length c, .int .i64 (at69 : Int), .bool ((k7 b).2)] 71, blk g19 (.int .u32 (rn 4 (b, false)) :: .bool ((rn 1 (k1 b)) == 1) :: .int .u32 (rn 4 (k2 b)) :: .int .u32 (rn 4 (k3 b)) :: .int .i64 (rn 1 (k4 b) - 1) :: .int .u32 0 :: .int .u32 0 :: .slice none 0 0 :: .int .u64 0 :: .int .u32 0 :: .int .u32 0 :: .int .u32 0 :: .int .u32 0 :: .int .i64 0 :: .int .i64 0 :: .int .i64 0 :: []) 34, blk g5 (.int .u32 0 :: .bool false :: .int .u32 0 :: .int .u32 0 :: .int .i64 0 :: .int .u32 0 :: .int .u32 0 :: .slice none 0 0 :: .int .u64 0 :: .int .u32 0 :: .int .u32 0 :: .int .u32 0 :: .int .u32 0 :: .int .i64 0 :: .int .i64 0 :: .int .i64 0 :: []) 34]) := HS
    refine ⟨_, rfl, ?_⟩
    refine p_run _ (x_field (j := 5) _ _ rfl rfl Try.underlying34 rfl (by rfl) rfl) rfl ?_
    refine St.stores (cs' := (.int .u32 (rn 4 (b, false)) :: .bool ((rn 1 (k1 b)) == 1) :: .int .u32 (rn 4 (k2 b)) :: .int .u32 (rn 4 (k3 b)) :: .int .i64 (rn 1 (k4 b) - 1) :: .int .u32 (rn 4 (k5 b)) :: .int .u32 (rn 4 (k6 b)) :: .slice none 0 0 :: .int .u64 0 :: .int .u32 0 :: .int .u32 0 :: .int .u32 0 :: .int .u32 0 :: .int .i64 0 :: .int .i64 0 :: .int .i64 0 :: [])) (HS.front 1 rfl) [.int .u32 (rn 4 (k5 b)), .int .u32 (rn 4 (k6 b))] 2 rfl rfl (by rfl) (by kernel_rfl) rfl (by simp) rfl ?_
    clear HS
    intro w72 HS
    refine wpList_nil ?_
    refine hK66 _ _ ?_
    refine wp_seq_k (fun K73 hK74 => ?_)
    refine c_region (fun ops76 hops75 => ?_)
    clear hops75
    refine p_run _ (x_move (.pointer (some ⟨g12, 0, none⟩)) rfl rfl) rfl ?_
    refine w_call [.pointer (some ⟨g12, 0, none⟩), .int .i64 1] Try.func31 (by kernel_rfl) (by rfl) rfl ?_
    replace HS := (HS.front 1 rfl)
    refine (r18num_any (s := (k7 b)) (at_ := at69) HS hr hl hat70 (n := 1) (.inl rfl)).mono ?_
    clear HS
    rintro e w79 ⟨at77, rfl, hat78, HS⟩
    replace HS : St w (fun _ => False) w79 ([blk g12 [.slice A b.length c, .int .i64 (at77 : Int), .bool ((k8 b).2)] 71, blk g19 (.int .u32 (rn 4 (b, false)) :: .bool ((rn 1 (k1 b)) == 1) :: .int .u32 (rn 4 (k2 b)) :: .int .u32 (rn 4 (k3 b)) :: .int .i64 (rn 1 (k4 b) - 1) :: .int .u32 (rn 4 (k5 b)) :: .int .u32 (rn 4 (k6 b)) :: .slice none 0 0 :: .int .u64 0 :: .int .u32 0 :: .int .u32 0 :: .int .u32 0 :: .int .u32 0 :: .int .i64 0 :: .int .i64 0 :: .int .i64 0 :: []) 34, blk g5 (.int .u32 0 :: .bool false :: .int .u32 0 :: .int .u32 0 :: .int .i64 0 :: .int .u32 0 :: .int .u32 0 :: .slice none 0 0 :: .int .u64 0 :: .int .u32 0 :: .int .u32 0 :: .int .u32 0 :: .int .u32 0 :: .int .i64 0 :: .int .i64 0 :: .int .i64 0 :: []) 34]) := HS
    refine ⟨_, rfl, ?_⟩
    refine p_run _ (x_assign (.int .u64 (rn 1 (k7 b))) rfl rfl) rfl ?_
    refine wpList_nil ?_
    obtain ⟨qz80, hqz80⟩ : ∃ q_ : V8, q_ = ⟨.int .u64 (rn 1 (k4 b)), .int .i64 (rn 1 (k4 b)), .int .i64 (rn 1 (k4 b) - 1), .pointer (some ⟨g19, 4, none⟩), .pointer (some ⟨g12, 0, none⟩), .agg ([.int .u32 (rn 4 (k5 b)), .int .u32 (rn 4 (k6 b))] : List Value).toArray, .pointer (some ⟨g19, 5, none⟩), .pointer (some ⟨g12, 0, none⟩)⟩ := ⟨_, rfl⟩
    refine fr_at (l' := (.slice A b.length c :: undef :: .pointer (some ⟨g5, 0, none⟩) :: .int .i64 0 :: .pointer (some ⟨g12, 0, none⟩) :: .pointer (some ⟨g19, 0, none⟩) :: .int .u64 (rn 1 (k7 b)) :: U4n4 (.slice A b.length c :: .agg ([.slice A b.length c, .int .i64 0, .bool false] : List Value).toArray :: .pointer (some ⟨g12, 0, none⟩) :: .agg ((.int .u32 0 :: .bool false :: .int .u32 0 :: .int .u32 0 :: .int .i64 0 :: .int .u32 0 :: .int .u32 0 :: .slice none 0 0 :: .int .u64 0 :: .int .u32 0 :: .int .u32 0 :: .int .u32 0 :: .int .u32 0 :: .int .i64 0 :: .int .i64 0 :: .int .i64 0 :: []) : List Value).toArray :: .pointer (some ⟨g12, 0, none⟩) :: V8.l qz47 (V8.l qz64 (V8.l qz80 (.int .u64 (rn 1 (k7 b)) :: U64n4 (U8n4 ([])))))))) (by subst hqz80; rfl) ?_
    refine hK74 _ _ ?_
    refine wp_seq_k (fun K81 hK82 => ?_)
    refine wp_seq_k (fun K83 hK84 => ?_)
    refine c_region (fun ops86 hops85 => ?_)
    clear hops85
    refine p_run _ (x_assign (.int .u64 0) rfl rfl) rfl ?_
    refine wpList_nil ?_
    refine fr_at (l' := (.slice A b.length c :: undef :: .pointer (some ⟨g5, 0, none⟩) :: .int .i64 0 :: .pointer (some ⟨g12, 0, none⟩) :: .pointer (some ⟨g19, 0, none⟩) :: .int .u64 (rn 1 (k7 b)) :: .int .u64 0 :: undef :: undef :: undef :: .slice A b.length c :: .agg ([.slice A b.length c, .int .i64 0, .bool false] : List Value).toArray :: .pointer (some ⟨g12, 0, none⟩) :: .agg ((.int .u32 0 :: .bool false :: .int .u32 0 :: .int .u32 0 :: .int .i64 0 :: .int .u32 0 :: .int .u32 0 :: .slice none 0 0 :: .int .u64 0 :: .int .u32 0 :: .int .u32 0 :: .int .u32 0 :: .int .u32 0 :: .int .i64 0 :: .int .i64 0 :: .int .i64 0 :: []) : List Value).toArray :: .pointer (some ⟨g12, 0, none⟩) :: V8.l qz47 (V8.l qz64 (V8.l qz80 (.int .u64 (rn 1 (k7 b)) :: U64n4 (U8n4 ([]))))))) rfl ?_
    refine hK84 _ _ ?_
    refine wp_block ?_
    replace HS := HS.nil kSn rfl 48
    refine c_loop (ι := Nat × Value × Nat) (fun i_ a_ w_ => match i_ with | (j, vs, ati) => ∃ (q87 : V8) (q88 : V8) (q89 : V8) (q90 : V8), a_ = fr (.slice A b.length c :: undef :: .pointer (some ⟨g5, 0, none⟩) :: .int .i64 0 :: .pointer (some ⟨g12, 0, none⟩) :: .pointer (some ⟨g19, 0, none⟩) :: .int .u64 (rn 1 (k7 b)) :: .int .u64 (j : Int) :: q87.a :: undef :: undef :: .slice A b.length c :: .agg ([.slice A b.length c, .int .i64 0, .bool false] : List Value).toArray :: .pointer (some ⟨g12, 0, none⟩) :: .agg ((.int .u32 0 :: .bool false :: .int .u32 0 :: .int .u32 0 :: .int .i64 0 :: .int .u32 0 :: .int .u32 0 :: .slice none 0 0 :: .int .u64 0 :: .int .u32 0 :: .int .u32 0 :: .int .u32 0 :: .int .u32 0 :: .int .i64 0 :: .int .i64 0 :: .int .i64 0 :: []) : List Value).toArray :: .pointer (some ⟨g12, 0, none⟩) :: V8.l qz47 (V8.l qz64 (V8.l qz80 (.int .u64 (rn 1 (k7 b)) :: q87.b :: q87.c :: q87.d :: q87.e :: q87.f :: q87.g :: q87.h :: V8.l q88 (V8.l q89 (q90.a :: q90.b :: q90.c :: q90.d :: q90.e :: U32n4 (U8n4 (U4n4 ([]))))))))) ∧ St w (fun _ => False) w_ ([row kSn rfl 48 vs ((kS b j).1), blk g19 (.int .u32 (rn 4 (b, false)) :: .bool ((rn 1 (k1 b)) == 1) :: .int .u32 (rn 4 (k2 b)) :: .int .u32 (rn 4 (k3 b)) :: .int .i64 (rn 1 (k4 b) - 1) :: .int .u32 (rn 4 (k5 b)) :: .int .u32 (rn 4 (k6 b)) :: vs :: .int .u64 0 :: .int .u32 0 :: .int .u32 0 :: .int .u32 0 :: .int .u32 0 :: .int .i64 0 :: .int .i64 0 :: .int .i64 0 :: []) 34, blk g12 [.slice A b.length c, .int .i64 (ati : Int), .bool ((kS b j).2.2)] 71, blk g5 (.int .u32 0 :: .bool false :: .int .u32 0 :: .int .u32 0 :: .int .i64 0 :: .int .u32 0 :: .int .u32 0 :: .slice none 0 0 :: .int .u64 0 :: .int .u32 0 :: .int .u32 0 :: .int .u32 0 :: .int .u32 0 :: .int .i64 0 :: .int .i64 0 :: .int .i64 0 :: []) 34]) ∧ (j ≤ nSn b ∧ b.drop ati = (kS b j).2.1 ∧ ati ≤ b.length)) (fun i_ => match i_ with | (j, vs, ati) => nSn b - j) (0, .slice none 0 0, at77) ?_ ?_
    · exact ⟨⟨undef, undef, undef, undef, undef, undef, undef, undef⟩, ⟨undef, undef, undef, undef, undef, undef, undef, undef⟩, ⟨undef, undef, undef, undef, undef, undef, undef, undef⟩, ⟨undef, undef, undef, undef, undef, undef, undef, undef⟩, rfl, ((((HS.front 3 rfl).front 2 rfl).front 3 rfl).front 3 rfl), ⟨Nat.zero_le _, hat78⟩⟩
    · clear HS
      rintro ⟨j, vs, ati⟩ a_ w93 ⟨q87, q88, q89, q90, rfl, HS, hI⟩ J91 hJ92
      obtain ⟨hjl, hati⟩ := hI
      refine wp_seq_k (fun K94 hK95 => ?_)
      refine wp_seq_k (fun K96 hK97 => ?_)
      refine c_region (fun ops99 hops98 => ?_)
      refine p_run _ (x_move (.int .u64 (j : Int)) rfl rfl) rfl ?_
      refine p_run _ (x_move (.int .u64 (rn 1 (k7 b))) rfl rfl) rfl ?_
      refine p_run _ (x_cmp (k := .u64) (m := (j : Int)) (n := (rn 1 (k7 b))) .lss (decide ((j : Int) < (rn 1 (k7 b)))) rfl rfl rfl rfl rfl) rfl ?_
      refine p_run _ (x_move (.bool (decide ((j : Int) < (rn 1 (k7 b))))) rfl rfl) rfl ?_
      obtain ⟨bz100, hbz100⟩ : ∃ b_, b_ = (decide ((j : Int) < (rn 1 (k7 b)))) := ⟨_, rfl⟩
      rw [← hbz100]
      refine p_tail 3 (fun a_ w_ => ∃ (uz45 uz46 : Value) (bz101 : Bool), a_ = fr (.slice A b.length c :: undef :: .pointer (some ⟨g5, 0, none⟩) :: .int .i64 0 :: .pointer (some ⟨g12, 0, none⟩) :: .pointer (some ⟨g19, 0, none⟩) :: .int .u64 (rn 1 (k7 b)) :: .int .u64 (j : Int) :: q87.a :: undef :: undef :: .slice A b.length c :: .agg ([.slice A b.length c, .int .i64 0, .bool false] : List Value).toArray :: .pointer (some ⟨g12, 0, none⟩) :: .agg ((.int .u32 0 :: .bool false :: .int .u32 0 :: .int .u32 0 :: .int .i64 0 :: .int .u32 0 :: .int .u32 0 :: .slice none 0 0 :: .int .u64 0 :: .int .u32 0 :: .int .u32 0 :: .int .u32 0 :: .int .u32 0 :: .int .i64 0 :: .int .i64 0 :: .int .i64 0 :: []) : List Value).toArray :: .pointer (some ⟨g12, 0, none⟩) :: V8.l qz47 (V8.l qz64 (V8.l qz80 (.int .u64 (rn 1 (k7 b)) :: .int .u64 (j : Int) :: .int .u64 (rn 1 (k7 b)) :: .bool bz100 :: .bool bz100 :: uz45 :: uz46 :: .bool bz101 :: V8.l q88 (V8.l q89 (q90.a :: q90.b :: q90.c :: q90.d :: q90.e :: U32n4 (U8n4 (U4n4 ([]))))))))) ∧ bz101 = (bz100 && (decide ((j : Int) < 8))) ∧ St w (fun _ => False) w_ ([row kSn rfl 48 vs ((kS b j).1), blk g19 (.int .u32 (rn 4 (b, false)) :: .bool ((rn 1 (k1 b)) == 1) :: .int .u32 (rn 4 (k2 b)) :: .int .u32 (rn 4 (k3 b)) :: .int .i64 (rn 1 (k4 b) - 1) :: .int .u32 (rn 4 (k5 b)) :: .int .u32 (rn 4 (k6 b)) :: vs :: .int .u64 0 :: .int .u32 0 :: .int .u32 0 :: .int .u32 0 :: .int .u32 0 :: .int .i64 0 :: .int .i64 0 :: .int .i64 0 :: []) 34, blk g12 [.slice A b.length c, .int .i64 (ati : Int), .bool ((kS b j).2.2)] 71, blk g5 (.int .u32 0 :: .bool false :: .int .u32 0 :: .int .u32 0 :: .int .i64 0 :: .int .u32 0 :: .int .u32 0 :: .slice none 0 0 :: .int .u64 0 :: .int .u32 0 :: .int .u32 0 :: .int .u32 0 :: .int .u32 0 :: .int .i64 0 :: .int .i64 0 :: .int .i64 0 :: []) 34])) (fun T102 => ?_) ?_
      · cases bz100
        · skip
          refine p_off (by rw [hops98]; rfl) rfl ?_
          refine p_off (by rw [hops98]; rfl) rfl ?_
          refine p_run _ (x_pick false (undef) (.bool false) (.bool false) rfl rfl rfl rfl rfl) rfl ?_
          exact T102 _ _ ⟨undef, undef, false, rfl, rfl, HS⟩
        · skip
          refine p_on rfl (by rw [hops98]; rfl) ?_
          refine p_run _ (x_move (.int .u64 (j : Int)) rfl rfl) rfl ?_
          refine p_on rfl (by rw [hops98]; rfl) ?_
          refine p_run _ (x_cmp (k := .u64) (m := (j : Int)) (n := 8) .lss (decide ((j : Int) < 8)) rfl rfl rfl rfl rfl) rfl ?_
          refine p_run _ (x_pick true (.bool (decide ((j : Int) < 8))) (.bool false) (.bool (decide ((j : Int) < 8))) rfl rfl rfl rfl rfl) rfl ?_
          exact T102 _ _ ⟨(.int .u64 (j : Int)), (.bool (decide ((j : Int) < 8))), (decide ((j : Int) < 8)), rfl, rfl, HS⟩
      clear HS
      rintro _ w_ ⟨uz45, uz46, bz101, rfl, hbz101, HS⟩
      skip
      clear hops98
      refine wpList_nil ?_
      refine hK97 _ _ ?_
      refine c_cond (t := bz101) rfl (fun hc104 => ?_) (fun hc104 => ?_)
      · rw [hbz101, hbz100] at hc104
        have hlt : j < nSn b := by
          simp only [Bool.and_eq_true, decide_eq_true_eq] at hc104
          unfold nSn upN
          omega
        refine wp_skip ?_
        refine hK95 _ _ ?_
        refine wp_seq_k (fun K105 hK106 => ?_)
        refine wp_block ?_
        refine wp_seq_k (fun K107 hK108 => ?_)
        refine c_region (fun ops110 hops109 => ?_)
        clear hops109
        refine p_run _ (x_build [.int .u32 0, .int .u32 0, .int .i64 0, .int .u32 0] rfl (by kernel_rfl)) rfl ?_
        refine St.wAlloc HS (cs := [.int .u32 0, .int .u32 0, .int .i64 0, .int .u32 0]) (.agg [.int .u32 0, .int .u32 0, .int .i64 0, .int .u32 0].toArray) (by kernel_rfl) rfl ?_
        clear HS
        intro g111 w112 hg113 HS
        refine St.stores (cs' := [.int .u32 0, .int .u32 0, .int .i64 0, .int .u32 0]) HS [.int .u32 0, .int .u32 0, .int .i64 0, .int .u32 0] 4 rfl rfl (by rfl) (by kernel_rfl) rfl (by simp) rfl ?_
        clear HS
        intro w114 HS
        refine wpList_nil ?_
        refine hK108 _ _ ?_
        refine wp_seq_k (fun K115 hK116 => ?_)
        refine c_region (fun ops118 hops117 => ?_)
        clear hops117
        refine p_run _ (x_move (.pointer (some ⟨g12, 0, none⟩)) rfl rfl) rfl ?_
        refine w_call [.pointer (some ⟨g12, 0, none⟩)] Try.func32 (by kernel_rfl) (by rfl) rfl ?_
        replace HS := (HS.front 3 rfl)
        refine (r18lab_any (s := (kS b j).2) (at_ := ati) HS hr hl hati).mono ?_
        clear HS
        rintro e w121 ⟨at119, rfl, hat120, HS⟩
        replace HS : St w (fun _ => False) w121 ([blk g12 [.slice A b.length c, .int .i64 (at119 : Int), .bool ((rs 4 (rs 4 (kS b j).2)).2)] 71, blk g111 [.int .u32 0, .int .u32 0, .int .i64 0, .int .u32 0] 48, row kSn rfl 48 vs ((kS b j).1), blk g19 (.int .u32 (rn 4 (b, false)) :: .bool ((rn 1 (k1 b)) == 1) :: .int .u32 (rn 4 (k2 b)) :: .int .u32 (rn 4 (k3 b)) :: .int .i64 (rn 1 (k4 b) - 1) :: .int .u32 (rn 4 (k5 b)) :: .int .u32 (rn 4 (k6 b)) :: vs :: .int .u64 0 :: .int .u32 0 :: .int .u32 0 :: .int .u32 0 :: .int .u32 0 :: .int .i64 0 :: .int .i64 0 :: .int .i64 0 :: []) 34, blk g5 (.int .u32 0 :: .bool false :: .int .u32 0 :: .int .u32 0 :: .int .i64 0 :: .int .u32 0 :: .int .u32 0 :: .slice none 0 0 :: .int .u64 0 :: .int .u32 0 :: .int .u32 0 :: .int .u32 0 :: .int .u32 0 :: .int .i64 0 :: .int .i64 0 :: .int .i64 0 :: []) 34]) := HS
        refine ⟨_, rfl, ?_⟩
        refine p_run _ (x_field (j := 0) _ _ rfl rfl Try.underlying48 rfl (by rfl) rfl) rfl ?_
        refine St.stores (cs' := [.int .u32 (rn 4 (kS b j).2), .int .u32 (rn 4 (rs 4 (kS b j).2)), .int .i64 0, .int .u32 0]) (HS.front 1 rfl) [.int .u32 (rn 4 (kS b j).2), .int .u32 (rn 4 (rs 4 (kS b j).2))] 2 rfl rfl (by rfl) (by kernel_rfl) rfl (by simp) rfl ?_
        clear HS
        intro w122 HS
        refine wpList_nil ?_
        refine fr_at (l' := (.slice A b.length c :: undef :: .pointer (some ⟨g5, 0, none⟩) :: .int .i64 0 :: .pointer (some ⟨g12, 0, none⟩) :: .pointer (some ⟨g19, 0, none⟩) :: .int .u64 (rn 1 (k7 b)) :: .int .u64 (j : Int) :: .pointer (some ⟨g111, 0, none⟩) :: undef :: undef :: .slice A b.length c :: .agg ([.slice A b.length c, .int .i64 0, .bool false] : List Value).toArray :: .pointer (some ⟨g12, 0, none⟩) :: .agg ((.int .u32 0 :: .bool false :: .int .u32 0 :: .int .u32 0 :: .int .i64 0 :: .int .u32 0 :: .int .u32 0 :: .slice none 0 0 :: .int .u64 0 :: .int .u32 0 :: .int .u32 0 :: .int .u32 0 :: .int .u32 0 :: .int .i64 0 :: .int .i64 0 :: .int .i64 0 :: []) : List Value).toArray :: .pointer (some ⟨g12, 0, none⟩) :: V8.l qz47 (V8.l qz64 (V8.l qz80 (.int .u64 (rn 1 (k7 b)) :: .int .u64 (j : Int) :: .int .u64 (rn 1 (k7 b)) :: .bool bz100 :: .bool bz100 :: uz45 :: uz46 :: .bool bz101 :: q88.a :: q88.b :: .agg ([.int .u32 0, .int .u32 0, .int .i64 0, .int .u32 0] : List Value).toArray :: .pointer (some ⟨g12, 0, none⟩) :: .agg ([.int .u32 (rn 4 (kS b j).2), .int .u32 (rn 4 (rs 4 (kS b j).2))] : List Value).toArray :: .pointer (some ⟨g111, 0, none⟩) :: q88.g :: q88.h :: V8.l q89 (q90.a :: q90.b :: q90.c :: q90.d :: q90.e :: U32n4 (U8n4 (U4n4 ([]))))))))) rfl ?_
        refine hK116 _ _ ?_
        refine wp_seq_k (fun K123 hK124 => ?_)
        refine c_region (fun ops126 hops125 => ?_)
        clear hops125
        refine p_run _ (x_move (.pointer (some ⟨g12, 0, none⟩)) rfl rfl) rfl ?_
        refine w_call [.pointer (some ⟨g12, 0, none⟩), .int .i64 1] Try.func31 (by kernel_rfl) (by rfl) rfl ?_
        replace HS := (HS.front 1 rfl)
        refine (r18num_any (s := (rs 4 (rs 4 (kS b j).2))) (at_ := at119) HS hr hl hat120 (n := 1) (.inl rfl)).mono ?_
        clear HS
        rintro e w129 ⟨at127, rfl, hat128, HS⟩
        replace HS : St w (fun _ => False) w129 ([blk g12 [.slice A b.length c, .int .i64 (at127 : Int), .bool ((rs 1 (rs 4 (rs 4 (kS b j).2))).2)] 71, blk g111 [.int .u32 (rn 4 (kS b j).2), .int .u32 (rn 4 (rs 4 (kS b j).2)), .int .i64 0, .int .u32 0] 48, row kSn rfl 48 vs ((kS b j).1), blk g19 (.int .u32 (rn 4 (b, false)) :: .bool ((rn 1 (k1 b)) == 1) :: .int .u32 (rn 4 (k2 b)) :: .int .u32 (rn 4 (k3 b)) :: .int .i64 (rn 1 (k4 b) - 1) :: .int .u32 (rn 4 (k5 b)) :: .int .u32 (rn 4 (k6 b)) :: vs :: .int .u64 0 :: .int .u32 0 :: .int .u32 0 :: .int .u32 0 :: .int .u32 0 :: .int .i64 0 :: .int .i64 0 :: .int .i64 0 :: []) 34, blk g5 (.int .u32 0 :: .bool false :: .int .u32 0 :: .int .u32 0 :: .int .i64 0 :: .int .u32 0 :: .int .u32 0 :: .slice none 0 0 :: .int .u64 0 :: .int .u32 0 :: .int .u32 0 :: .int .u32 0 :: .int .u32 0 :: .int .i64 0 :: .int .i64 0 :: .int .i64 0 :: []) 34]) := HS
        refine ⟨_, rfl, ?_⟩
        refine p_run _ (x_conv (k := .u64) (m := (rn 1 (rs 4 (rs 4 (kS b j).2)))) .i64 ((rn 1 (rs 4 (rs 4 (kS b j).2)))) rfl (by rw [Try.underlying30]; rfl) Try.underlying3 rfl (wr64' (by have := bd1 (rs 4 (rs 4 (kS b j).2)); omega))) rfl ?_
        refine p_run _ (x_arith (k := .i64) (m := (rn 1 (rs 4 (rs 4 (kS b j).2)))) (n := 1) .sub ((rn 1 (rs 4 (rs 4 (kS b j).2)) - 1)) rfl rfl rfl (show IntKind.i64.wrap ((rn 1 (rs 4 (rs 4 (kS b j).2))) - 1) = (rn 1 (rs 4 (rs 4 (kS b j).2)) - 1) from (wr64' (by have := bd1 (rs 4 (rs 4 (kS b j).2)); omega))) rfl) rfl ?_
        refine p_run _ (x_field (j := 2) _ _ rfl rfl Try.underlying48 rfl (by rfl) rfl) rfl ?_
        refine St.store (cs' := [.int .u32 (rn 4 (kS b j).2), .int .u32 (rn 4 (rs 4 (kS b j).2)), .int .i64 (rn 1 (rs 4 (rs 4 (kS b j).2)) - 1), .int .u32 0]) (HS.front 1 rfl) (.int .i64 (rn 1 (rs 4 (rs 4 (kS b j).2)) - 1)) rfl rfl rfl (by kernel_rfl) (by rfl) rfl ?_
        clear HS
        intro w130 HS
        refine wpList_nil ?_
        refine fr_at (l' := (.slice A b.length c :: undef :: .pointer (some ⟨g5, 0, none⟩) :: .int .i64 0 :: .pointer (some ⟨g12, 0, none⟩) :: .pointer (some ⟨g19, 0, none⟩) :: .int .u64 (rn 1 (k7 b)) :: .int .u64 (j : Int) :: .pointer (some ⟨g111, 0, none⟩) :: undef :: undef :: .slice A b.length c :: .agg ([.slice A b.length c, .int .i64 0, .bool false] : List Value).toArray :: .pointer (some ⟨g12, 0, none⟩) :: .agg ((.int .u32 0 :: .bool false :: .int .u32 0 :: .int .u32 0 :: .int .i64 0 :: .int .u32 0 :: .int .u32 0 :: .slice none 0 0 :: .int .u64 0 :: .int .u32 0 :: .int .u32 0 :: .int .u32 0 :: .int .u32 0 :: .int .i64 0 :: .int .i64 0 :: .int .i64 0 :: []) : List Value).toArray :: .pointer (some ⟨g12, 0, none⟩) :: V8.l qz47 (V8.l qz64 (V8.l qz80 (.int .u64 (rn 1 (k7 b)) :: .int .u64 (j : Int) :: .int .u64 (rn 1 (k7 b)) :: .bool bz100 :: .bool bz100 :: uz45 :: uz46 :: .bool bz101 :: q88.a :: q88.b :: .agg ([.int .u32 0, .int .u32 0, .int .i64 0, .int .u32 0] : List Value).toArray :: .pointer (some ⟨g12, 0, none⟩) :: .agg ([.int .u32 (rn 4 (kS b j).2), .int .u32 (rn 4 (rs 4 (kS b j).2))] : List Value).toArray :: .pointer (some ⟨g111, 0, none⟩) :: .pointer (some ⟨g12, 0, none⟩) :: .int .u64 (rn 1 (rs 4 (rs 4 (kS b j).2))) :: .int .i64 (rn 1 (rs 4 (rs 4 (kS b j).2))) :: .int .i64 (rn 1 (rs 4 (rs 4 (kS b j).2)) - 1) :: .pointer (some ⟨g111, 2, none⟩) :: q89.d :: q89.e :: q89.f :: q89.g :: q89.h :: q90.a :: q90.b :: q90.c :: q90.d :: q90.e :: U32n4 (U8n4 (U4n4 ([])))))))) rfl ?_
        refine hK124 _ _ ?_
        refine wp_seq_k (fun K131 hK132 => ?_)
        refine c_region (fun ops134 hops133 => ?_)
        clear hops133
        refine p_run _ (x_move (.pointer (some ⟨g12, 0, none⟩)) rfl rfl) rfl ?_
        refine w_call [.pointer (some ⟨g12, 0, none⟩), .int .i64 4] Try.func31 (by kernel_rfl) (by rfl) rfl ?_
        replace HS := (HS.front 1 rfl)
        refine (r18num_any (s := (rs 1 (rs 4 (rs 4 (kS b j).2)))) (at_ := at127) HS hr hl hat128 (n := 4) (.inr (.inl rfl))).mono ?_
        clear HS
        rintro e w137 ⟨at135, rfl, hat136, HS⟩
        replace HS : St w (fun _ => False) w137 ([blk g12 [.slice A b.length c, .int .i64 (at135 : Int), .bool ((rs 4 (rs 1 (rs 4 (rs 4 (kS b j).2)))).2)] 71, blk g111 [.int .u32 (rn 4 (kS b j).2), .int .u32 (rn 4 (rs 4 (kS b j).2)), .int .i64 (rn 1 (rs 4 (rs 4 (kS b j).2)) - 1), .int .u32 0] 48, row kSn rfl 48 vs ((kS b j).1), blk g19 (.int .u32 (rn 4 (b, false)) :: .bool ((rn 1 (k1 b)) == 1) :: .int .u32 (rn 4 (k2 b)) :: .int .u32 (rn 4 (k3 b)) :: .int .i64 (rn 1 (k4 b) - 1) :: .int .u32 (rn 4 (k5 b)) :: .int .u32 (rn 4 (k6 b)) :: vs :: .int .u64 0 :: .int .u32 0 :: .int .u32 0 :: .int .u32 0 :: .int .u32 0 :: .int .i64 0 :: .int .i64 0 :: .int .i64 0 :: []) 34, blk g5 (.int .u32 0 :: .bool false :: .int .u32 0 :: .int .u32 0 :: .int .i64 0 :: .int .u32 0 :: .int .u32 0 :: .slice none 0 0 :: .int .u64 0 :: .int .u32 0 :: .int .u32 0 :: .int .u32 0 :: .int .u32 0 :: .int .i64 0 :: .int .i64 0 :: .int .i64 0 :: []) 34]) := HS
        refine ⟨_, rfl, ?_⟩
        refine p_run _ (x_conv (k := .u64) (m := (rn 4 (rs 1 (rs 4 (rs 4 (kS b j).2))))) .u32 ((rn 4 (rs 1 (rs 4 (rs 4 (kS b j).2))))) rfl (by rw [Try.underlying30]; rfl) Try.underlying26 rfl (wu32 (bd4 _))) rfl ?_
        refine p_run _ (x_field (j := 3) _ _ rfl rfl Try.underlying48 rfl (by rfl) rfl) rfl ?_
        refine St.store (cs' := [.int .u32 (rn 4 (kS b j).2), .int .u32 (rn 4 (rs 4 (kS b j).2)), .int .i64 (rn 1 (rs 4 (rs 4 (kS b j).2)) - 1), .int .u32 (rn 4 (rs 1 (rs 4 (rs 4 (kS b j).2))))]) (HS.front 1 rfl) (.int .u32 (rn 4 (rs 1 (rs 4 (rs 4 (kS b j).2))))) rfl rfl rfl (by kernel_rfl) (by rfl) rfl ?_
        clear HS
        intro w138 HS
        refine wpList_nil ?_
        refine fr_at (l' := (.slice A b.length c :: undef :: .pointer (some ⟨g5, 0, none⟩) :: .int .i64 0 :: .pointer (some ⟨g12, 0, none⟩) :: .pointer (some ⟨g19, 0, none⟩) :: .int .u64 (rn 1 (k7 b)) :: .int .u64 (j : Int) :: .pointer (some ⟨g111, 0, none⟩) :: undef :: undef :: .slice A b.length c :: .agg ([.slice A b.length c, .int .i64 0, .bool false] : List Value).toArray :: .pointer (some ⟨g12, 0, none⟩) :: .agg ((.int .u32 0 :: .bool false :: .int .u32 0 :: .int .u32 0 :: .int .i64 0 :: .int .u32 0 :: .int .u32 0 :: .slice none 0 0 :: .int .u64 0 :: .int .u32 0 :: .int .u32 0 :: .int .u32 0 :: .int .u32 0 :: .int .i64 0 :: .int .i64 0 :: .int .i64 0 :: []) : List Value).toArray :: .pointer (some ⟨g12, 0, none⟩) :: V8.l qz47 (V8.l qz64 (V8.l qz80 (.int .u64 (rn 1 (k7 b)) :: .int .u64 (j : Int) :: .int .u64 (rn 1 (k7 b)) :: .bool bz100 :: .bool bz100 :: uz45 :: uz46 :: .bool bz101 :: q88.a :: q88.b :: .agg ([.int .u32 0, .int .u32 0, .int .i64 0, .int .u32 0] : List Value).toArray :: .pointer (some ⟨g12, 0, none⟩) :: .agg ([.int .u32 (rn 4 (kS b j).2), .int .u32 (rn 4 (rs 4 (kS b j).2))] : List Value).toArray :: .pointer (some ⟨g111, 0, none⟩) :: .pointer (some ⟨g12, 0, none⟩) :: .int .u64 (rn 1 (rs 4 (rs 4 (kS b j).2))) :: .int .i64 (rn 1 (rs 4 (rs 4 (kS b j).2))) :: .int .i64 (rn 1 (rs 4 (rs 4 (kS b j).2)) - 1) :: .pointer (some ⟨g111, 2, none⟩) :: .pointer (some ⟨g12, 0, none⟩) :: .int .u64 (rn 4 (rs 1 (rs 4 (rs 4 (kS b j).2)))) :: .int .u32 (rn 4 (rs 1 (rs 4 (rs 4 (kS b j).2)))) :: .pointer (some ⟨g111, 3, none⟩) :: q89.h :: q90.a :: q90.b :: q90.c :: q90.d :: q90.e :: U32n4 (U8n4 (U4n4 ([])))))))) rfl ?_
        refine hK132 _ _ ?_
        refine c_region (fun ops140 hops139 => ?_)
        clear hops139
        refine p_run _ (x_field (j := 7) _ _ rfl rfl Try.underlying34 rfl (by rfl) rfl) rfl ?_
        refine p_run _ (x_load (vs) rfl rfl (bkCell (HS.get (.tail _ (.tail _ (.tail _ (.head _))))) 7 _ rfl) (by rfl)) rfl ?_
        refine p_run _ (x_loads [.int .u32 (rn 4 (kS b j).2), .int .u32 (rn 4 (rs 4 (kS b j).2)), .int .i64 (rn 1 (rs 4 (rs 4 (kS b j).2)) - 1), .int .u32 (rn 4 (rs 1 (rs 4 (rs 4 (kS b j).2))))] 4 rfl rfl (bkCells (HS.get (.head _)) 0 _ rfl) (by rfl) (by kernel_rfl) rfl) rfl ?_
        refine St.wLit1 HS [.int .u32 (rn 4 (kS b j).2), .int .u32 (rn 4 (rs 4 (kS b j).2)), .int .i64 (rn 1 (rs 4 (rs 4 (kS b j).2)) - 1), .int .u32 (rn 4 (rs 1 (rs 4 (rs 4 (kS b j).2))))] 4 (.agg [.int .u32 0, .int .u32 0, .int .i64 0, .int .u32 0].toArray) (.agg ([.int .u32 (rn 4 (kS b j).2), .int .u32 (rn 4 (rs 4 (kS b j).2)), .int .i64 (rn 1 (rs 4 (rs 4 (kS b j).2)) - 1), .int .u32 (rn 4 (rs 1 (rs 4 (rs 4 (kS b j).2))))] : List Value).toArray) Try.underlying29 (by kernel_rfl) (by decide) rfl rfl rfl ?_
        clear HS
        intro g141 w142 hg143 HS
        replace HS := (HS.front 3 rfl)
        refine St.wAppend HS ((.agg #[.int .u32 0, .int .u32 0, .int .i64 0, .int .u32 0])) 24 Try.underlying29 (by kernel_rfl) (by kernel_rfl) (by decide) (by decide) [(rdSn (kS b j).2).1] _ _ _ rfl rfl (lit_reads (HS.get (.tail _ (.head _))) ((Reps.none _ _).snoc (p := (rdSn (kS b j).2).1) rfl rfl) (by simp)) (fun _ _ h => h) (by have h_ := kS_len b j; have := nSn_le b; omega) ?_
        clear HS
        intro v144 w145 HS
        refine p_run _ (x_field (j := 7) _ _ rfl rfl Try.underlying34 rfl (by rfl) rfl) rfl ?_
        refine St.store (cs' := (.int .u32 (rn 4 (b, false)) :: .bool ((rn 1 (k1 b)) == 1) :: .int .u32 (rn 4 (k2 b)) :: .int .u32 (rn 4 (k3 b)) :: .int .i64 (rn 1 (k4 b) - 1) :: .int .u32 (rn 4 (k5 b)) :: .int .u32 (rn 4 (k6 b)) :: v144 :: .int .u64 0 :: .int .u32 0 :: .int .u32 0 :: .int .u32 0 :: .int .u32 0 :: .int .i64 0 :: .int .i64 0 :: .int .i64 0 :: [])) (HS.front 4 rfl) (v144) rfl rfl (row_one (HS.get (.head _))) (by kernel_rfl) (by rfl) rfl ?_
        clear HS
        intro w146 HS
        refine wpList_nil ?_
        refine fr_at (l' := (.slice A b.length c :: undef :: .pointer (some ⟨g5, 0, none⟩) :: .int .i64 0 :: .pointer (some ⟨g12, 0, none⟩) :: .pointer (some ⟨g19, 0, none⟩) :: .int .u64 (rn 1 (k7 b)) :: .int .u64 (j : Int) :: .pointer (some ⟨g111, 0, none⟩) :: undef :: undef :: .slice A b.length c :: .agg ([.slice A b.length c, .int .i64 0, .bool false] : List Value).toArray :: .pointer (some ⟨g12, 0, none⟩) :: .agg ((.int .u32 0 :: .bool false :: .int .u32 0 :: .int .u32 0 :: .int .i64 0 :: .int .u32 0 :: .int .u32 0 :: .slice none 0 0 :: .int .u64 0 :: .int .u32 0 :: .int .u32 0 :: .int .u32 0 :: .int .u32 0 :: .int .i64 0 :: .int .i64 0 :: .int .i64 0 :: []) : List Value).toArray :: .pointer (some ⟨g12, 0, none⟩) :: V8.l qz47 (V8.l qz64 (V8.l qz80 (.int .u64 (rn 1 (k7 b)) :: .int .u64 (j : Int) :: .int .u64 (rn 1 (k7 b)) :: .bool bz100 :: .bool bz100 :: uz45 :: uz46 :: .bool bz101 :: q88.a :: q88.b :: .agg ([.int .u32 0, .int .u32 0, .int .i64 0, .int .u32 0] : List Value).toArray :: .pointer (some ⟨g12, 0, none⟩) :: .agg ([.int .u32 (rn 4 (kS b j).2), .int .u32 (rn 4 (rs 4 (kS b j).2))] : List Value).toArray :: .pointer (some ⟨g111, 0, none⟩) :: .pointer (some ⟨g12, 0, none⟩) :: .int .u64 (rn 1 (rs 4 (rs 4 (kS b j).2))) :: .int .i64 (rn 1 (rs 4 (rs 4 (kS b j).2))) :: .int .i64 (rn 1 (rs 4 (rs 4 (kS b j).2)) - 1) :: .pointer (some ⟨g111, 2, none⟩) :: .pointer (some ⟨g12, 0, none⟩) :: .int .u64 (rn 4 (rs 1 (rs 4 (rs 4 (kS b j).2)))) :: .int .u32 (rn 4 (rs 1 (rs 4 (rs 4 (kS b j).2)))) :: .pointer (some ⟨g111, 3, none⟩) :: .pointer (some ⟨g19, 7, none⟩) :: vs :: .agg ([.int .u32 (rn 4 (kS b j).2), .int .u32 (rn 4 (rs 4 (kS b j).2)), .int .i64 (rn 1 (rs 4 (rs 4 (kS b j).2)) - 1), .int .u32 (rn 4 (rs 1 (rs 4 (rs 4 (kS b j).2))))] : List Value).toArray :: .slice (some ⟨g141, 0, none⟩) 1 1 :: v144 :: .pointer (some ⟨g19, 7, none⟩) :: U32n4 (U8n4 (U4n4 ([])))))))) rfl ?_
        refine hK106 _ _ ?_
        refine c_region (fun ops148 hops147 => ?_)
        clear hops147
        refine p_run _ (x_move (.int .u64 (j : Int)) rfl rfl) rfl ?_
        refine p_run _ (x_arith (k := .u64) (m := (j : Int)) (n := 1) .add (((j + 1 : Nat) : Int)) rfl rfl rfl (show IntKind.u64.wrap ((j : Int) + 1) = ((j + 1 : Nat) : Int) from ((wru64 (by have := nSn_le b; omega)).trans (by omega))) rfl) rfl ?_
        refine p_run _ (x_assign (.int .u64 ((j + 1 : Nat) : Int)) rfl rfl) rfl ?_
        refine wpList_nil ?_
        refine fr_at (l' := (.slice A b.length c :: undef :: .pointer (some ⟨g5, 0, none⟩) :: .int .i64 0 :: .pointer (some ⟨g12, 0, none⟩) :: .pointer (some ⟨g19, 0, none⟩) :: .int .u64 (rn 1 (k7 b)) :: .int .u64 ((j + 1 : Nat) : Int) :: .pointer (some ⟨g111, 0, none⟩) :: undef :: undef :: .slice A b.length c :: .agg ([.slice A b.length c, .int .i64 0, .bool false] : List Value).toArray :: .pointer (some ⟨g12, 0, none⟩) :: .agg ((.int .u32 0 :: .bool false :: .int .u32 0 :: .int .u32 0 :: .int .i64 0 :: .int .u32 0 :: .int .u32 0 :: .slice none 0 0 :: .int .u64 0 :: .int .u32 0 :: .int .u32 0 :: .int .u32 0 :: .int .u32 0 :: .int .i64 0 :: .int .i64 0 :: .int .i64 0 :: []) : List Value).toArray :: .pointer (some ⟨g12, 0, none⟩) :: V8.l qz47 (V8.l qz64 (V8.l qz80 (.int .u64 (rn 1 (k7 b)) :: .int .u64 (j : Int) :: .int .u64 (rn 1 (k7 b)) :: .bool bz100 :: .bool bz100 :: uz45 :: uz46 :: .bool bz101 :: .int .u64 (j : Int) :: .int .u64 ((j + 1 : Nat) : Int) :: .agg ([.int .u32 0, .int .u32 0, .int .i64 0, .int .u32 0] : List Value).toArray :: .pointer (some ⟨g12, 0, none⟩) :: .agg ([.int .u32 (rn 4 (kS b j).2), .int .u32 (rn 4 (rs 4 (kS b j).2))] : List Value).toArray :: .pointer (some ⟨g111, 0, none⟩) :: .pointer (some ⟨g12, 0, none⟩) :: .int .u64 (rn 1 (rs 4 (rs 4 (kS b j).2))) :: .int .i64 (rn 1 (rs 4 (rs 4 (kS b j).2))) :: .int .i64 (rn 1 (rs 4 (rs 4 (kS b j).2)) - 1) :: .pointer (some ⟨g111, 2, none⟩) :: .pointer (some ⟨g12, 0, none⟩) :: .int .u64 (rn 4 (rs 1 (rs 4 (rs 4 (kS b j).2)))) :: .int .u32 (rn 4 (rs 1 (rs 4 (rs 4 (kS b j).2)))) :: .pointer (some ⟨g111, 3, none⟩) :: .pointer (some ⟨g19, 7, none⟩) :: vs :: .agg ([.int .u32 (rn 4 (kS b j).2), .int .u32 (rn 4 (rs 4 (kS b j).2)), .int .i64 (rn 1 (rs 4 (rs 4 (kS b j).2)) - 1), .int .u32 (rn 4 (rs 1 (rs 4 (rs 4 (kS b j).2))))] : List Value).toArray :: .slice (some ⟨g141, 0, none⟩) 1 1 :: v144 :: .pointer (some ⟨g19, 7, none⟩) :: U32n4 (U8n4 (U4n4 ([])))))))) rfl ?_
        refine hJ92 (j + 1, v144, at135) _ _ ?_ ?_
        · show nSn b - (j + 1) < nSn b - j; omega
        · exact ⟨⟨.pointer (some ⟨g111, 0, none⟩), .int .u64 (j : Int), .int .u64 (rn 1 (k7 b)), .bool bz100, .bool bz100, uz45, uz46, .bool bz101⟩, ⟨.int .u64 (j : Int), .int .u64 ((j + 1 : Nat) : Int), .agg ([.int .u32 0, .int .u32 0, .int .i64 0, .int .u32 0] : List Value).toArray, .pointer (some ⟨g12, 0, none⟩), .agg ([.int .u32 (rn 4 (kS b j).2), .int .u32 (rn 4 (rs 4 (kS b j).2))] : List Value).toArray, .pointer (some ⟨g111, 0, none⟩), .pointer (some ⟨g12, 0, none⟩), .int .u64 (rn 1 (rs 4 (rs 4 (kS b j).2)))⟩, ⟨.int .i64 (rn 1 (rs 4 (rs 4 (kS b j).2))), .int .i64 (rn 1 (rs 4 (rs 4 (kS b j).2)) - 1), .pointer (some ⟨g111, 2, none⟩), .pointer (some ⟨g12, 0, none⟩), .int .u64 (rn 4 (rs 1 (rs 4 (rs 4 (kS b j).2)))), .int .u32 (rn 4 (rs 1 (rs 4 (rs 4 (kS b j).2)))), .pointer (some ⟨g111, 3, none⟩), .pointer (some ⟨g19, 7, none⟩)⟩, ⟨vs, .agg ([.int .u32 (rn 4 (kS b j).2), .int .u32 (rn 4 (rs 4 (kS b j).2)), .int .i64 (rn 1 (rs 4 (rs 4 (kS b j).2)) - 1), .int .u32 (rn 4 (rs 1 (rs 4 (rs 4 (kS b j).2))))] : List Value).toArray, .slice (some ⟨g141, 0, none⟩) 1 1, v144, .pointer (some ⟨g19, 7, none⟩), undef, undef, undef⟩, rfl, ((((((HS.front 2 rfl).drop.front 2 rfl).drop.front 3 rfl).front 3 rfl).front 2 rfl).front 3 rfl), ⟨by omega, hat136⟩⟩
      · rw [hbz101, hbz100] at hc104
        have hlt : j = nSn b := by
          have hj_ := hjl
          simp only [Bool.and_eq_false_iff, decide_eq_false_iff_not] at hc104
          unfold nSn upN at hj_ ⊢
          have := bd1 (k7 b)
          omega
        subst hlt
        replace HS : St w (fun _ => False) w_ ([row kSn rfl 48 vs ((kS b (nSn b)).1), blk g19 (.int .u32 (rn 4 (b, false)) :: .bool ((rn 1 (k1 b)) == 1) :: .int .u32 (rn 4 (k2 b)) :: .int .u32 (rn 4 (k3 b)) :: .int .i64 (rn 1 (k4 b) - 1) :: .int .u32 (rn 4 (k5 b)) :: .int .u32 (rn 4 (k6 b)) :: vs :: .int .u64 0 :: .int .u32 0 :: .int .u32 0 :: .int .u32 0 :: .int .u32 0 :: .int .i64 0 :: .int .i64 0 :: .int .i64 0 :: []) 34, blk g12 [.slice A b.length c, .int .i64 (ati : Int), .bool ((kE b).2)] 71, blk g5 (.int .u32 0 :: .bool false :: .int .u32 0 :: .int .u32 0 :: .int .i64 0 :: .int .u32 0 :: .int .u32 0 :: .slice none 0 0 :: .int .u64 0 :: .int .u32 0 :: .int .u32 0 :: .int .u32 0 :: .int .u32 0 :: .int .i64 0 :: .int .i64 0 :: .int .i64 0 :: []) 34]) := HS
        refine wp_exit ?_
        refine hK82 _ _ ?_
        refine wp_seq_k (fun K149 hK150 => ?_)
        refine c_region (fun ops152 hops151 => ?_)
        clear hops151
        refine p_run _ (x_move (.pointer (some ⟨g12, 0, none⟩)) rfl rfl) rfl ?_
        refine w_call [.pointer (some ⟨g12, 0, none⟩), .int .i64 8] Try.func31 (by kernel_rfl) (by rfl) rfl ?_
        replace HS := (HS.front 2 rfl)
        refine (r18num_any (s := (kE b)) (at_ := ati) HS hr hl hati (n := 8) (.inr (.inr rfl))).mono ?_
        clear HS
        rintro e w155 ⟨at153, rfl, hat154, HS⟩
        replace HS : St w (fun _ => False) w155 ([blk g12 [.slice A b.length c, .int .i64 (at153 : Int), .bool ((k9 b).2)] 71, row kSn rfl 48 vs ((kS b (nSn b)).1), blk g19 (.int .u32 (rn 4 (b, false)) :: .bool ((rn 1 (k1 b)) == 1) :: .int .u32 (rn 4 (k2 b)) :: .int .u32 (rn 4 (k3 b)) :: .int .i64 (rn 1 (k4 b) - 1) :: .int .u32 (rn 4 (k5 b)) :: .int .u32 (rn 4 (k6 b)) :: vs :: .int .u64 0 :: .int .u32 0 :: .int .u32 0 :: .int .u32 0 :: .int .u32 0 :: .int .i64 0 :: .int .i64 0 :: .int .i64 0 :: []) 34, blk g5 (.int .u32 0 :: .bool false :: .int .u32 0 :: .int .u32 0 :: .int .i64 0 :: .int .u32 0 :: .int .u32 0 :: .slice none 0 0 :: .int .u64 0 :: .int .u32 0 :: .int .u32 0 :: .int .u32 0 :: .int .u32 0 :: .int .i64 0 :: .int .i64 0 :: .int .i64 0 :: []) 34]) := HS
        refine ⟨_, rfl, ?_⟩
        refine p_run _ (x_field (j := 8) _ _ rfl rfl Try.underlying34 rfl (by rfl) rfl) rfl ?_
        refine p_run _ (x_field (j := 8) _ _ rfl rfl Try.underlying32 rfl (by rfl) rfl) rfl ?_
        refine St.store (cs' := (.int .u32 (rn 4 (b, false)) :: .bool ((rn 1 (k1 b)) == 1) :: .int .u32 (rn 4 (k2 b)) :: .int .u32 (rn 4 (k3 b)) :: .int .i64 (rn 1 (k4 b) - 1) :: .int .u32 (rn 4 (k5 b)) :: .int .u32 (rn 4 (k6 b)) :: vs :: .int .u64 (rn 8 (kE b)) :: .int .u32 0 :: .int .u32 0 :: .int .u32 0 :: .int .u32 0 :: .int .i64 0 :: .int .i64 0 :: .int .i64 0 :: [])) (HS.front 2 rfl) (.int .u64 (rn 8 (kE b))) rfl rfl rfl (by kernel_rfl) (by rfl) rfl ?_
        clear HS
        intro w156 HS
        refine wpList_nil ?_
        obtain ⟨qz157, hqz157⟩ : ∃ q_ : V8, q_ = ⟨.int .u64 (rn 1 (k7 b)), .int .u64 ((nSn b) : Int), .int .u64 (rn 1 (k7 b)), .bool bz100, .bool bz100, uz45, uz46, .bool bz101⟩ := ⟨_, rfl⟩
        obtain ⟨qz158, hqz158⟩ : ∃ q_ : V8, q_ = ⟨q90.a, q90.b, q90.c, q90.d, q90.e, .pointer (some ⟨g12, 0, none⟩), .int .u64 (rn 8 (kE b)), .pointer (some ⟨g19, 8, none⟩)⟩ := ⟨_, rfl⟩
        refine fr_at (l' := (.slice A b.length c :: undef :: .pointer (some ⟨g5, 0, none⟩) :: .int .i64 0 :: .pointer (some ⟨g12, 0, none⟩) :: .pointer (some ⟨g19, 0, none⟩) :: .int .u64 (rn 1 (k7 b)) :: .int .u64 ((nSn b) : Int) :: q87.a :: undef :: undef :: .slice A b.length c :: .agg ([.slice A b.length c, .int .i64 0, .bool false] : List Value).toArray :: .pointer (some ⟨g12, 0, none⟩) :: .agg ((.int .u32 0 :: .bool false :: .int .u32 0 :: .int .u32 0 :: .int .i64 0 :: .int .u32 0 :: .int .u32 0 :: .slice none 0 0 :: .int .u64 0 :: .int .u32 0 :: .int .u32 0 :: .int .u32 0 :: .int .u32 0 :: .int .i64 0 :: .int .i64 0 :: .int .i64 0 :: []) : List Value).toArray :: .pointer (some ⟨g12, 0, none⟩) :: V8.l qz47 (V8.l qz64 (V8.l qz80 (V8.l qz157 (V8.l q88 (V8.l q89 (V8.l qz158 (.pointer (some ⟨g19, 8, none⟩) :: U32n4 (U8n4 ([]))))))))))) (by subst hqz157 hqz158; rfl) ?_
        refine hK150 _ _ ?_
        refine wp_seq_k (fun K159 hK160 => ?_)
        refine c_region (fun ops162 hops161 => ?_)
        clear hops161
        refine p_run _ (x_move (.pointer (some ⟨g12, 0, none⟩)) rfl rfl) rfl ?_
        refine w_call [.pointer (some ⟨g12, 0, none⟩)] Try.func32 (by kernel_rfl) (by rfl) rfl ?_
        replace HS := (HS.front 1 rfl)
        refine (r18lab_any (s := (k9 b)) (at_ := at153) HS hr hl hat154).mono ?_
        clear HS
        rintro e w165 ⟨at163, rfl, hat164, HS⟩
        replace HS : St w (fun _ => False) w165 ([blk g12 [.slice A b.length c, .int .i64 (at163 : Int), .bool ((k11 b).2)] 71, blk g19 (.int .u32 (rn 4 (b, false)) :: .bool ((rn 1 (k1 b)) == 1) :: .int .u32 (rn 4 (k2 b)) :: .int .u32 (rn 4 (k3 b)) :: .int .i64 (rn 1 (k4 b) - 1) :: .int .u32 (rn 4 (k5 b)) :: .int .u32 (rn 4 (k6 b)) :: vs :: .int .u64 (rn 8 (kE b)) :: .int .u32 0 :: .int .u32 0 :: .int .u32 0 :: .int .u32 0 :: .int .i64 0 :: .int .i64 0 :: .int .i64 0 :: []) 34, row kSn rfl 48 vs ((kS b (nSn b)).1), blk g5 (.int .u32 0 :: .bool false :: .int .u32 0 :: .int .u32 0 :: .int .i64 0 :: .int .u32 0 :: .int .u32 0 :: .slice none 0 0 :: .int .u64 0 :: .int .u32 0 :: .int .u32 0 :: .int .u32 0 :: .int .u32 0 :: .int .i64 0 :: .int .i64 0 :: .int .i64 0 :: []) 34]) := HS
        refine ⟨_, rfl, ?_⟩
        refine p_run _ (x_field (j := 8) _ _ rfl rfl Try.underlying34 rfl (by rfl) rfl) rfl ?_
        refine p_run _ (x_field (j := 9) _ _ rfl rfl Try.underlying32 rfl (by rfl) rfl) rfl ?_
        refine St.stores (cs' := (.int .u32 (rn 4 (b, false)) :: .bool ((rn 1 (k1 b)) == 1) :: .int .u32 (rn 4 (k2 b)) :: .int .u32 (rn 4 (k3 b)) :: .int .i64 (rn 1 (k4 b) - 1) :: .int .u32 (rn 4 (k5 b)) :: .int .u32 (rn 4 (k6 b)) :: vs :: .int .u64 (rn 8 (kE b)) :: .int .u32 (rn 4 (k9 b)) :: .int .u32 (rn 4 (k10 b)) :: .int .u32 0 :: .int .u32 0 :: .int .i64 0 :: .int .i64 0 :: .int .i64 0 :: [])) (HS.front 1 rfl) [.int .u32 (rn 4 (k9 b)), .int .u32 (rn 4 (k10 b))] 2 rfl rfl (by rfl) (by kernel_rfl) rfl (by simp) rfl ?_
        clear HS
        intro w166 HS
        refine wpList_nil ?_
        refine fr_at (l' := (.slice A b.length c :: undef :: .pointer (some ⟨g5, 0, none⟩) :: .int .i64 0 :: .pointer (some ⟨g12, 0, none⟩) :: .pointer (some ⟨g19, 0, none⟩) :: .int .u64 (rn 1 (k7 b)) :: .int .u64 ((nSn b) : Int) :: q87.a :: undef :: undef :: .slice A b.length c :: .agg ([.slice A b.length c, .int .i64 0, .bool false] : List Value).toArray :: .pointer (some ⟨g12, 0, none⟩) :: .agg ((.int .u32 0 :: .bool false :: .int .u32 0 :: .int .u32 0 :: .int .i64 0 :: .int .u32 0 :: .int .u32 0 :: .slice none 0 0 :: .int .u64 0 :: .int .u32 0 :: .int .u32 0 :: .int .u32 0 :: .int .u32 0 :: .int .i64 0 :: .int .i64 0 :: .int .i64 0 :: []) : List Value).toArray :: .pointer (some ⟨g12, 0, none⟩) :: V8.l qz47 (V8.l qz64 (V8.l qz80 (V8.l qz157 (V8.l q88 (V8.l q89 (V8.l qz158 (.pointer (some ⟨g19, 8, none⟩) :: .pointer (some ⟨g12, 0, none⟩) :: .agg ([.int .u32 (rn 4 (k9 b)), .int .u32 (rn 4 (k10 b))] : List Value).toArray :: .pointer (some ⟨g19, 8, none⟩) :: .pointer (some ⟨g19, 9, none⟩) :: U32n4 (U4n4 ([]))))))))))) rfl ?_
        refine hK160 _ _ ?_
        refine wp_seq_k (fun K167 hK168 => ?_)
        refine c_region (fun ops170 hops169 => ?_)
        clear hops169
        refine p_run _ (x_move (.pointer (some ⟨g12, 0, none⟩)) rfl rfl) rfl ?_
        refine w_call [.pointer (some ⟨g12, 0, none⟩)] Try.func32 (by kernel_rfl) (by rfl) rfl ?_
        replace HS := (HS.front 1 rfl)
        refine (r18lab_any (s := (k11 b)) (at_ := at163) HS hr hl hat164).mono ?_
        clear HS
        rintro e w173 ⟨at171, rfl, hat172, HS⟩
        replace HS : St w (fun _ => False) w173 ([blk g12 [.slice A b.length c, .int .i64 (at171 : Int), .bool ((k13 b).2)] 71, blk g19 (.int .u32 (rn 4 (b, false)) :: .bool ((rn 1 (k1 b)) == 1) :: .int .u32 (rn 4 (k2 b)) :: .int .u32 (rn 4 (k3 b)) :: .int .i64 (rn 1 (k4 b) - 1) :: .int .u32 (rn 4 (k5 b)) :: .int .u32 (rn 4 (k6 b)) :: vs :: .int .u64 (rn 8 (kE b)) :: .int .u32 (rn 4 (k9 b)) :: .int .u32 (rn 4 (k10 b)) :: .int .u32 0 :: .int .u32 0 :: .int .i64 0 :: .int .i64 0 :: .int .i64 0 :: []) 34, row kSn rfl 48 vs ((kS b (nSn b)).1), blk g5 (.int .u32 0 :: .bool false :: .int .u32 0 :: .int .u32 0 :: .int .i64 0 :: .int .u32 0 :: .int .u32 0 :: .slice none 0 0 :: .int .u64 0 :: .int .u32 0 :: .int .u32 0 :: .int .u32 0 :: .int .u32 0 :: .int .i64 0 :: .int .i64 0 :: .int .i64 0 :: []) 34]) := HS
        refine ⟨_, rfl, ?_⟩
        refine p_run _ (x_field (j := 8) _ _ rfl rfl Try.underlying34 rfl (by rfl) rfl) rfl ?_
        refine p_run _ (x_field (j := 11) _ _ rfl rfl Try.underlying32 rfl (by rfl) rfl) rfl ?_
        refine St.stores (cs' := (.int .u32 (rn 4 (b, false)) :: .bool ((rn 1 (k1 b)) == 1) :: .int .u32 (rn 4 (k2 b)) :: .int .u32 (rn 4 (k3 b)) :: .int .i64 (rn 1 (k4 b) - 1) :: .int .u32 (rn 4 (k5 b)) :: .int .u32 (rn 4 (k6 b)) :: vs :: .int .u64 (rn 8 (kE b)) :: .int .u32 (rn 4 (k9 b)) :: .int .u32 (rn 4 (k10 b)) :: .int .u32 (rn 4 (k11 b)) :: .int .u32 (rn 4 (k12 b)) :: .int .i64 0 :: .int .i64 0 :: .int .i64 0 :: [])) (HS.front 1 rfl) [.int .u32 (rn 4 (k11 b)), .int .u32 (rn 4 (k12 b))] 2 rfl rfl (by rfl) (by kernel_rfl) rfl (by simp) rfl ?_
        clear HS
        intro w174 HS
        refine wpList_nil ?_
        obtain ⟨qz175, hqz175⟩ : ∃ q_ : V8, q_ = ⟨.pointer (some ⟨g19, 8, none⟩), .pointer (some ⟨g12, 0, none⟩), .agg ([.int .u32 (rn 4 (k9 b)), .int .u32 (rn 4 (k10 b))] : List Value).toArray, .pointer (some ⟨g19, 8, none⟩), .pointer (some ⟨g19, 9, none⟩), .pointer (some ⟨g12, 0, none⟩), .agg ([.int .u32 (rn 4 (k11 b)), .int .u32 (rn 4 (k12 b))] : List Value).toArray, .pointer (some ⟨g19, 8, none⟩)⟩ := ⟨_, rfl⟩
        refine fr_at (l' := (.slice A b.length c :: undef :: .pointer (some ⟨g5, 0, none⟩) :: .int .i64 0 :: .pointer (some ⟨g12, 0, none⟩) :: .pointer (some ⟨g19, 0, none⟩) :: .int .u64 (rn 1 (k7 b)) :: .int .u64 ((nSn b) : Int) :: q87.a :: undef :: undef :: .slice A b.length c :: .agg ([.slice A b.length c, .int .i64 0, .bool false] : List Value).toArray :: .pointer (some ⟨g12, 0, none⟩) :: .agg ((.int .u32 0 :: .bool false :: .int .u32 0 :: .int .u32 0 :: .int .i64 0 :: .int .u32 0 :: .int .u32 0 :: .slice none 0 0 :: .int .u64 0 :: .int .u32 0 :: .int .u32 0 :: .int .u32 0 :: .int .u32 0 :: .int .i64 0 :: .int .i64 0 :: .int .i64 0 :: []) : List Value).toArray :: .pointer (some ⟨g12, 0, none⟩) :: V8.l qz47 (V8.l qz64 (V8.l qz80 (V8.l qz157 (V8.l q88 (V8.l q89 (V8.l qz158 (V8.l qz175 (.pointer (some ⟨g19, 11, none⟩) :: U32n4 ([]))))))))))) (by subst hqz175; rfl) ?_
        refine hK168 _ _ ?_
        refine wp_seq_k (fun K176 hK177 => ?_)
        refine c_region (fun ops179 hops178 => ?_)
        clear hops178
        refine p_run _ (x_move (.pointer (some ⟨g12, 0, none⟩)) rfl rfl) rfl ?_
        refine w_call [.pointer (some ⟨g12, 0, none⟩), .int .i64 1] Try.func31 (by kernel_rfl) (by rfl) rfl ?_
        replace HS := (HS.front 1 rfl)
        refine (r18num_any (s := (k13 b)) (at_ := at171) HS hr hl hat172 (n := 1) (.inl rfl)).mono ?_
        clear HS
        rintro e w182 ⟨at180, rfl, hat181, HS⟩
        replace HS : St w (fun _ => False) w182 ([blk g12 [.slice A b.length c, .int .i64 (at180 : Int), .bool ((k14 b).2)] 71, blk g19 (.int .u32 (rn 4 (b, false)) :: .bool ((rn 1 (k1 b)) == 1) :: .int .u32 (rn 4 (k2 b)) :: .int .u32 (rn 4 (k3 b)) :: .int .i64 (rn 1 (k4 b) - 1) :: .int .u32 (rn 4 (k5 b)) :: .int .u32 (rn 4 (k6 b)) :: vs :: .int .u64 (rn 8 (kE b)) :: .int .u32 (rn 4 (k9 b)) :: .int .u32 (rn 4 (k10 b)) :: .int .u32 (rn 4 (k11 b)) :: .int .u32 (rn 4 (k12 b)) :: .int .i64 0 :: .int .i64 0 :: .int .i64 0 :: []) 34, row kSn rfl 48 vs ((kS b (nSn b)).1), blk g5 (.int .u32 0 :: .bool false :: .int .u32 0 :: .int .u32 0 :: .int .i64 0 :: .int .u32 0 :: .int .u32 0 :: .slice none 0 0 :: .int .u64 0 :: .int .u32 0 :: .int .u32 0 :: .int .u32 0 :: .int .u32 0 :: .int .i64 0 :: .int .i64 0 :: .int .i64 0 :: []) 34]) := HS
        refine ⟨_, rfl, ?_⟩
        refine p_run _ (x_conv (k := .u64) (m := (rn 1 (k13 b))) .i64 ((rn 1 (k13 b))) rfl (by rw [Try.underlying30]; rfl) Try.underlying3 rfl (wr64' (by have := bd1 (k13 b); omega))) rfl ?_
        refine p_run _ (x_field (j := 8) _ _ rfl rfl Try.underlying34 rfl (by rfl) rfl) rfl ?_
        refine p_run _ (x_field (j := 13) _ _ rfl rfl Try.underlying32 rfl (by rfl) rfl) rfl ?_
        refine St.store (cs' := (.int .u32 (rn 4 (b, false)) :: .bool ((rn 1 (k1 b)) == 1) :: .int .u32 (rn 4 (k2 b)) :: .int .u32 (rn 4 (k3 b)) :: .int .i64 (rn 1 (k4 b) - 1) :: .int .u32 (rn 4 (k5 b)) :: .int .u32 (rn 4 (k6 b)) :: vs :: .int .u64 (rn 8 (kE b)) :: .int .u32 (rn 4 (k9 b)) :: .int .u32 (rn 4 (k10 b)) :: .int .u32 (rn 4 (k11 b)) :: .int .u32 (rn 4 (k12 b)) :: .int .i64 (rn 1 (k13 b)) :: .int .i64 0 :: .int .i64 0 :: [])) (HS.front 1 rfl) (.int .i64 (rn 1 (k13 b))) rfl rfl rfl (by kernel_rfl) (by rfl) rfl ?_
        clear HS
        intro w183 HS
        refine wpList_nil ?_
        refine fr_at (l' := (.slice A b.length c :: undef :: .pointer (some ⟨g5, 0, none⟩) :: .int .i64 0 :: .pointer (some ⟨g12, 0, none⟩) :: .pointer (some ⟨g19, 0, none⟩) :: .int .u64 (rn 1 (k7 b)) :: .int .u64 ((nSn b) : Int) :: q87.a :: undef :: undef :: .slice A b.length c :: .agg ([.slice A b.length c, .int .i64 0, .bool false] : List Value).toArray :: .pointer (some ⟨g12, 0, none⟩) :: .agg ((.int .u32 0 :: .bool false :: .int .u32 0 :: .int .u32 0 :: .int .i64 0 :: .int .u32 0 :: .int .u32 0 :: .slice none 0 0 :: .int .u64 0 :: .int .u32 0 :: .int .u32 0 :: .int .u32 0 :: .int .u32 0 :: .int .i64 0 :: .int .i64 0 :: .int .i64 0 :: []) : List Value).toArray :: .pointer (some ⟨g12, 0, none⟩) :: V8.l qz47 (V8.l qz64 (V8.l qz80 (V8.l qz157 (V8.l q88 (V8.l q89 (V8.l qz158 (V8.l qz175 (.pointer (some ⟨g19, 11, none⟩) :: .pointer (some ⟨g12, 0, none⟩) :: .int .u64 (rn 1 (k13 b)) :: .int .i64 (rn 1 (k13 b)) :: .pointer (some ⟨g19, 8, none⟩) :: .pointer (some ⟨g19, 13, none⟩) :: U16n4 (U8n4 (undef :: undef :: undef :: [])))))))))))) rfl ?_
        refine hK177 _ _ ?_
        refine wp_seq_k (fun K184 hK185 => ?_)
        refine c_region (fun ops187 hops186 => ?_)
        clear hops186
        refine p_run _ (x_move (.pointer (some ⟨g12, 0, none⟩)) rfl rfl) rfl ?_
        refine w_call [.pointer (some ⟨g12, 0, none⟩), .int .i64 1] Try.func31 (by kernel_rfl) (by rfl) rfl ?_
        replace HS := (HS.front 1 rfl)
        refine (r18num_any (s := (k14 b)) (at_ := at180) HS hr hl hat181 (n := 1) (.inl rfl)).mono ?_
        clear HS
        rintro e w190 ⟨at188, rfl, hat189, HS⟩
        replace HS : St w (fun _ => False) w190 ([blk g12 [.slice A b.length c, .int .i64 (at188 : Int), .bool ((k15 b).2)] 71, blk g19 (.int .u32 (rn 4 (b, false)) :: .bool ((rn 1 (k1 b)) == 1) :: .int .u32 (rn 4 (k2 b)) :: .int .u32 (rn 4 (k3 b)) :: .int .i64 (rn 1 (k4 b) - 1) :: .int .u32 (rn 4 (k5 b)) :: .int .u32 (rn 4 (k6 b)) :: vs :: .int .u64 (rn 8 (kE b)) :: .int .u32 (rn 4 (k9 b)) :: .int .u32 (rn 4 (k10 b)) :: .int .u32 (rn 4 (k11 b)) :: .int .u32 (rn 4 (k12 b)) :: .int .i64 (rn 1 (k13 b)) :: .int .i64 0 :: .int .i64 0 :: []) 34, row kSn rfl 48 vs ((kS b (nSn b)).1), blk g5 (.int .u32 0 :: .bool false :: .int .u32 0 :: .int .u32 0 :: .int .i64 0 :: .int .u32 0 :: .int .u32 0 :: .slice none 0 0 :: .int .u64 0 :: .int .u32 0 :: .int .u32 0 :: .int .u32 0 :: .int .u32 0 :: .int .i64 0 :: .int .i64 0 :: .int .i64 0 :: []) 34]) := HS
        refine ⟨_, rfl, ?_⟩
        refine p_run _ (x_conv (k := .u64) (m := (rn 1 (k14 b))) .i64 ((rn 1 (k14 b))) rfl (by rw [Try.underlying30]; rfl) Try.underlying3 rfl (wr64' (by have := bd1 (k14 b); omega))) rfl ?_
        refine p_run _ (x_field (j := 8) _ _ rfl rfl Try.underlying34 rfl (by rfl) rfl) rfl ?_
        refine p_run _ (x_field (j := 14) _ _ rfl rfl Try.underlying32 rfl (by rfl) rfl) rfl ?_
        refine St.store (cs' := (.int .u32 (rn 4 (b, false)) :: .bool ((rn 1 (k1 b)) == 1) :: .int .u32 (rn 4 (k2 b)) :: .int .u32 (rn 4 (k3 b)) :: .int .i64 (rn 1 (k4 b) - 1) :: .int .u32 (rn 4 (k5 b)) :: .int .u32 (rn 4 (k6 b)) :: vs :: .int .u64 (rn 8 (kE b)) :: .int .u32 (rn 4 (k9 b)) :: .int .u32 (rn 4 (k10 b)) :: .int .u32 (rn 4 (k11 b)) :: .int .u32 (rn 4 (k12 b)) :: .int .i64 (rn 1 (k13 b)) :: .int .i64 (rn 1 (k14 b)) :: .int .i64 0 :: [])) (HS.front 1 rfl) (.int .i64 (rn 1 (k14 b))) rfl rfl rfl (by kernel_rfl) (by rfl) rfl ?_
        clear HS
        intro w191 HS
        refine wpList_nil ?_
        obtain ⟨qz192, hqz192⟩ : ∃ q_ : V8, q_ = ⟨.pointer (some ⟨g19, 11, none⟩), .pointer (some ⟨g12, 0, none⟩), .int .u64 (rn 1 (k13 b)), .int .i64 (rn 1 (k13 b)), .pointer (some ⟨g19, 8, none⟩), .pointer (some ⟨g19, 13, none⟩), .pointer (some ⟨g12, 0, none⟩), .int .u64 (rn 1 (k14 b))⟩ := ⟨_, rfl⟩
        refine fr_at (l' := (.slice A b.length c :: undef :: .pointer (some ⟨g5, 0, none⟩) :: .int .i64 0 :: .pointer (some ⟨g12, 0, none⟩) :: .pointer (some ⟨g19, 0, none⟩) :: .int .u64 (rn 1 (k7 b)) :: .int .u64 ((nSn b) : Int) :: q87.a :: undef :: undef :: .slice A b.length c :: .agg ([.slice A b.length c, .int .i64 0, .bool false] : List Value).toArray :: .pointer (some ⟨g12, 0, none⟩) :: .agg ((.int .u32 0 :: .bool false :: .int .u32 0 :: .int .u32 0 :: .int .i64 0 :: .int .u32 0 :: .int .u32 0 :: .slice none 0 0 :: .int .u64 0 :: .int .u32 0 :: .int .u32 0 :: .int .u32 0 :: .int .u32 0 :: .int .i64 0 :: .int .i64 0 :: .int .i64 0 :: []) : List Value).toArray :: .pointer (some ⟨g12, 0, none⟩) :: V8.l qz47 (V8.l qz64 (V8.l qz80 (V8.l qz157 (V8.l q88 (V8.l q89 (V8.l qz158 (V8.l qz175 (V8.l qz192 (.int .i64 (rn 1 (k14 b)) :: .pointer (some ⟨g19, 8, none⟩) :: .pointer (some ⟨g19, 14, none⟩) :: U16n4 (U4n4 (undef :: undef :: []))))))))))))) (by subst hqz192; rfl) ?_
        refine hK185 _ _ ?_
        refine wp_seq_k (fun K193 hK194 => ?_)
        refine c_region (fun ops196 hops195 => ?_)
        clear hops195
        refine p_run _ (x_move (.pointer (some ⟨g12, 0, none⟩)) rfl rfl) rfl ?_
        refine w_call [.pointer (some ⟨g12, 0, none⟩), .int .i64 1] Try.func31 (by kernel_rfl) (by rfl) rfl ?_
        replace HS := (HS.front 1 rfl)
        refine (r18num_any (s := (k15 b)) (at_ := at188) HS hr hl hat189 (n := 1) (.inl rfl)).mono ?_
        clear HS
        rintro e w199 ⟨at197, rfl, hat198, HS⟩
        replace HS : St w (fun _ => False) w199 ([blk g12 [.slice A b.length c, .int .i64 (at197 : Int), .bool ((k16 b).2)] 71, blk g19 (.int .u32 (rn 4 (b, false)) :: .bool ((rn 1 (k1 b)) == 1) :: .int .u32 (rn 4 (k2 b)) :: .int .u32 (rn 4 (k3 b)) :: .int .i64 (rn 1 (k4 b) - 1) :: .int .u32 (rn 4 (k5 b)) :: .int .u32 (rn 4 (k6 b)) :: vs :: .int .u64 (rn 8 (kE b)) :: .int .u32 (rn 4 (k9 b)) :: .int .u32 (rn 4 (k10 b)) :: .int .u32 (rn 4 (k11 b)) :: .int .u32 (rn 4 (k12 b)) :: .int .i64 (rn 1 (k13 b)) :: .int .i64 (rn 1 (k14 b)) :: .int .i64 0 :: []) 34, row kSn rfl 48 vs ((kS b (nSn b)).1), blk g5 (.int .u32 0 :: .bool false :: .int .u32 0 :: .int .u32 0 :: .int .i64 0 :: .int .u32 0 :: .int .u32 0 :: .slice none 0 0 :: .int .u64 0 :: .int .u32 0 :: .int .u32 0 :: .int .u32 0 :: .int .u32 0 :: .int .i64 0 :: .int .i64 0 :: .int .i64 0 :: []) 34]) := HS
        refine ⟨_, rfl, ?_⟩
        refine p_run _ (x_conv (k := .u64) (m := (rn 1 (k15 b))) .i64 ((rn 1 (k15 b))) rfl (by rw [Try.underlying30]; rfl) Try.underlying3 rfl (wr64' (by have := bd1 (k15 b); omega))) rfl ?_
        refine p_run _ (x_arith (k := .i64) (m := (rn 1 (k15 b))) (n := 1) .sub ((rn 1 (k15 b) - 1)) rfl rfl rfl (show IntKind.i64.wrap ((rn 1 (k15 b)) - 1) = (rn 1 (k15 b) - 1) from (wr64' (by have := bd1 (k15 b); omega))) rfl) rfl ?_
        refine p_run _ (x_field (j := 8) _ _ rfl rfl Try.underlying34 rfl (by rfl) rfl) rfl ?_
        refine p_run _ (x_field (j := 15) _ _ rfl rfl Try.underlying32 rfl (by rfl) rfl) rfl ?_
        refine St.store (cs' := (.int .u32 (rn 4 (b, false)) :: .bool ((rn 1 (k1 b)) == 1) :: .int .u32 (rn 4 (k2 b)) :: .int .u32 (rn 4 (k3 b)) :: .int .i64 (rn 1 (k4 b) - 1) :: .int .u32 (rn 4 (k5 b)) :: .int .u32 (rn 4 (k6 b)) :: vs :: .int .u64 (rn 8 (kE b)) :: .int .u32 (rn 4 (k9 b)) :: .int .u32 (rn 4 (k10 b)) :: .int .u32 (rn 4 (k11 b)) :: .int .u32 (rn 4 (k12 b)) :: .int .i64 (rn 1 (k13 b)) :: .int .i64 (rn 1 (k14 b)) :: .int .i64 (rn 1 (k15 b) - 1) :: [])) (HS.front 1 rfl) (.int .i64 (rn 1 (k15 b) - 1)) rfl rfl rfl (by kernel_rfl) (by rfl) rfl ?_
        clear HS
        intro w200 HS
        refine wpList_nil ?_
        obtain ⟨qz201, hqz201⟩ : ∃ q_ : V8, q_ = ⟨.int .i64 (rn 1 (k14 b)), .pointer (some ⟨g19, 8, none⟩), .pointer (some ⟨g19, 14, none⟩), .pointer (some ⟨g12, 0, none⟩), .int .u64 (rn 1 (k15 b)), .int .i64 (rn 1 (k15 b)), .int .i64 (rn 1 (k15 b) - 1), .pointer (some ⟨g19, 8, none⟩)⟩ := ⟨_, rfl⟩
        refine fr_at (l' := (.slice A b.length c :: undef :: .pointer (some ⟨g5, 0, none⟩) :: .int .i64 0 :: .pointer (some ⟨g12, 0, none⟩) :: .pointer (some ⟨g19, 0, none⟩) :: .int .u64 (rn 1 (k7 b)) :: .int .u64 ((nSn b) : Int) :: q87.a :: undef :: undef :: .slice A b.length c :: .agg ([.slice A b.length c, .int .i64 0, .bool false] : List Value).toArray :: .pointer (some ⟨g12, 0, none⟩) :: .agg ((.int .u32 0 :: .bool false :: .int .u32 0 :: .int .u32 0 :: .int .i64 0 :: .int .u32 0 :: .int .u32 0 :: .slice none 0 0 :: .int .u64 0 :: .int .u32 0 :: .int .u32 0 :: .int .u32 0 :: .int .u32 0 :: .int .i64 0 :: .int .i64 0 :: .int .i64 0 :: []) : List Value).toArray :: .pointer (some ⟨g12, 0, none⟩) :: V8.l qz47 (V8.l qz64 (V8.l qz80 (V8.l qz157 (V8.l q88 (V8.l q89 (V8.l qz158 (V8.l qz175 (V8.l qz192 (V8.l qz201 (.pointer (some ⟨g19, 15, none⟩) :: U16n4 ([]))))))))))))) (by subst hqz201; rfl) ?_
        refine hK194 _ _ ?_
        refine wp_seq_k (fun K202 hK203 => ?_)
        skip
        · skip
          obtain ⟨A204, c205, hv206, hcp207, -⟩ := row_reads (HS.get (.tail _ (.tail _ (.head _))))
          subst hv206
          replace HS : St w (fun _ => False) w200 ([blk g19 (.int .u32 ((rdR b).e) :: .bool ((rdR b).p) :: .int .u32 ((rdR b).b) :: .int .u32 ((rdR b).q) :: .int .i64 ((rdR b).l) :: .int .u32 ((rdR b).xe) :: .int .u32 ((rdR b).xq) :: .slice A204 ((rdR b).sn.length) c205 :: .int .u64 ((rdR b).s) :: .int .u32 ((rdR b).te) :: .int .u32 ((rdR b).tq) :: .int .u32 ((rdR b).be) :: .int .u32 ((rdR b).bq) :: .int .i64 ((rdR b).nx) :: .int .i64 ((rdR b).tt) :: .int .i64 ((rdR b).rt) :: []) 34, blk g12 [.slice A b.length c, .int .i64 (at197 : Int), .bool ((k16 b).2)] 71, row kSn rfl 48 (.slice A204 ((rdR b).sn.length) c205) ((rdR b).sn), blk g5 (.int .u32 0 :: .bool false :: .int .u32 0 :: .int .u32 0 :: .int .i64 0 :: .int .u32 0 :: .int .u32 0 :: .slice none 0 0 :: .int .u64 0 :: .int .u32 0 :: .int .u32 0 :: .int .u32 0 :: .int .u32 0 :: .int .i64 0 :: .int .i64 0 :: .int .i64 0 :: []) 34]) := HS
          refine c_region (fun ops209 hops208 => ?_)
          clear hops208
          refine p_run _ (x_loads (.int .u32 ((rdR b).e) :: .bool ((rdR b).p) :: .int .u32 ((rdR b).b) :: .int .u32 ((rdR b).q) :: .int .i64 ((rdR b).l) :: .int .u32 ((rdR b).xe) :: .int .u32 ((rdR b).xq) :: .slice A204 ((rdR b).sn.length) c205 :: .int .u64 ((rdR b).s) :: .int .u32 ((rdR b).te) :: .int .u32 ((rdR b).tq) :: .int .u32 ((rdR b).be) :: .int .u32 ((rdR b).bq) :: .int .i64 ((rdR b).nx) :: .int .i64 ((rdR b).tt) :: .int .i64 ((rdR b).rt) :: []) 16 rfl rfl (bkCells (HS.get (.head _)) 0 _ rfl) (by rfl) (by kernel_rfl) rfl) rfl ?_
          refine w_call [rcV (rdR b) A204 c205] Try.func16 (by kernel_rfl) (by rfl) rfl ?_
          refine (r14bytes_law _ (rdR b) A204 c205 (row_C (HS.get (.tail _ (.tail _ (.head _))))).2.2 (by have := rdR_sn b; omega) (rdR_wf _)).mono ?_
          rintro e w212 ⟨A210, c211, rfl, hk_⟩
          replace HS := HS.more hk_
          clear hk_
          refine ⟨_, rfl, ?_⟩
          refine p_run _ (x_move (.tuple [.slice A210 ((bB (rdR b)).length) c211, .int .i64 (bE (rdR b))].toArray) rfl rfl) rfl ?_
          refine p_run _ (x_extract (vs := [.slice A210 ((bB (rdR b)).length) c211, .int .i64 (bE (rdR b))]) 0 (.slice A210 ((bB (rdR b)).length) c211) rfl rfl rfl) rfl ?_
          refine p_run _ (x_extract (vs := [.slice A210 ((bB (rdR b)).length) c211, .int .i64 (bE (rdR b))]) 1 (.int .i64 (bE (rdR b))) rfl rfl rfl) rfl ?_
          refine p_run _ (x_assign (.slice A210 ((bB (rdR b)).length) c211) rfl rfl) rfl ?_
          refine p_run (l' := (.slice A b.length c :: undef :: .pointer (some ⟨g5, 0, none⟩) :: .int .i64 0 :: .pointer (some ⟨g12, 0, none⟩) :: .pointer (some ⟨g19, 0, none⟩) :: .int .u64 (rn 1 (k7 b)) :: .int .u64 ((nSn b) : Int) :: q87.a :: .slice A210 ((bB (rdR b)).length) c211 :: .int .i64 (bE (rdR b)) :: .slice A b.length c :: .agg ([.slice A b.length c, .int .i64 0, .bool false] : List Value).toArray :: .pointer (some ⟨g12, 0, none⟩) :: .agg ((.int .u32 0 :: .bool false :: .int .u32 0 :: .int .u32 0 :: .int .i64 0 :: .int .u32 0 :: .int .u32 0 :: .slice none 0 0 :: .int .u64 0 :: .int .u32 0 :: .int .u32 0 :: .int .u32 0 :: .int .u32 0 :: .int .i64 0 :: .int .i64 0 :: .int .i64 0 :: []) : List Value).toArray :: .pointer (some ⟨g12, 0, none⟩) :: V8.l qz47 (V8.l qz64 (V8.l qz80 (V8.l qz157 (V8.l q88 (V8.l q89 (V8.l qz158 (V8.l qz175 (V8.l qz192 (V8.l qz201 (.pointer (some ⟨g19, 15, none⟩) :: .tuple [.slice A210 ((bB (rdR b)).length) c211, .int .i64 (bE (rdR b))].toArray :: rcV (rdR b) A204 c205 :: .tuple [.slice A210 ((bB (rdR b)).length) c211, .int .i64 (bE (rdR b))].toArray :: .slice A210 ((bB (rdR b)).length) c211 :: .int .i64 (bE (rdR b)) :: U8n4 (undef :: undef :: undef :: []))))))))))))) _ (x_assign (.int .i64 (bE (rdR b))) rfl rfl) rfl ?_
          refine wpList_nil ?_
          refine hK203 _ _ ?_
          refine wp_seq_k (fun K213 hK214 => ?_)
          refine wp_seq_k (fun K215 hK216 => ?_)
          refine c_region (fun ops218 hops217 => ?_)
          refine p_run _ (x_move (.int .i64 (bE (rdR b))) rfl rfl) rfl ?_
          refine p_run _ (x_cmp (k := .i64) (m := (bE (rdR b))) (n := 0) .neq ((bE (rdR b)) != 0) rfl rfl rfl rfl rfl) rfl ?_
          refine p_run _ (x_move (.bool ((bE (rdR b)) != 0)) rfl rfl) rfl ?_
          obtain ⟨bz219, hbz219⟩ : ∃ b_, b_ = (((bE (rdR b)) != 0)) := ⟨_, rfl⟩
          rw [← hbz219]
          refine p_tail 6 (fun a_ w_ => ∃ (uz105 uz106 uz107 uz108 uz109 : Value) (qz221 qz222 : V8) (bz220 : Bool), a_ = fr (.slice A b.length c :: undef :: .pointer (some ⟨g5, 0, none⟩) :: .int .i64 0 :: .pointer (some ⟨g12, 0, none⟩) :: .pointer (some ⟨g19, 0, none⟩) :: .int .u64 (rn 1 (k7 b)) :: .int .u64 ((nSn b) : Int) :: V8.l qz221 (V8.l qz47 (V8.l qz64 (V8.l qz80 (V8.l qz157 (V8.l q88 (V8.l q89 (V8.l qz158 (V8.l qz175 (V8.l qz192 (V8.l qz201 (V8.l qz222 (.bool bz219 :: uz105 :: uz106 :: uz107 :: uz108 :: uz109 :: .bool bz220 :: undef :: undef :: []))))))))))))) ∧ bz220 = (bz219 || (!(decide (bB (rdR b) = b)))) ∧ St w (fun _ => False) w_ ([row kByte rfl 5 (.slice A210 ((bB (rdR b)).length) c211) (bB (rdR b)), blk g19 (.int .u32 ((rdR b).e) :: .bool ((rdR b).p) :: .int .u32 ((rdR b).b) :: .int .u32 ((rdR b).q) :: .int .i64 ((rdR b).l) :: .int .u32 ((rdR b).xe) :: .int .u32 ((rdR b).xq) :: .slice A204 ((rdR b).sn.length) c205 :: .int .u64 ((rdR b).s) :: .int .u32 ((rdR b).te) :: .int .u32 ((rdR b).tq) :: .int .u32 ((rdR b).be) :: .int .u32 ((rdR b).bq) :: .int .i64 ((rdR b).nx) :: .int .i64 ((rdR b).tt) :: .int .i64 ((rdR b).rt) :: []) 34, blk g12 [.slice A b.length c, .int .i64 (at197 : Int), .bool ((k16 b).2)] 71, row kSn rfl 48 (.slice A204 ((rdR b).sn.length) c205) ((rdR b).sn), blk g5 (.int .u32 0 :: .bool false :: .int .u32 0 :: .int .u32 0 :: .int .i64 0 :: .int .u32 0 :: .int .u32 0 :: .slice none 0 0 :: .int .u64 0 :: .int .u32 0 :: .int .u32 0 :: .int .u32 0 :: .int .u32 0 :: .int .i64 0 :: .int .i64 0 :: .int .i64 0 :: []) 34])) (fun T223 => ?_) ?_
          · cases bz219
            · skip
              refine p_on rfl (by rw [hops217]; rfl) ?_
              refine p_run _ (x_move (.slice A210 ((bB (rdR b)).length) c211) rfl rfl) rfl ?_
              refine p_on rfl (by rw [hops217]; rfl) ?_
              refine p_run _ (x_str (xs := (bB (rdR b))) (row_rd (HS.get (.head _))).2.2 (by first | rfl | simp) rfl rfl) rfl ?_
              refine p_on rfl (by rw [hops217]; rfl) ?_
              refine p_run _ (x_move (.slice A b.length c) rfl rfl) rfl ?_
              refine p_on rfl (by rw [hops217]; rfl) ?_
              refine p_run _ (x_str (xs := b) (hr.below HS.belowOf).rd (by first | rfl | simp) rfl rfl) rfl ?_
              refine p_on rfl (by rw [hops217]; rfl) ?_
              refine p_run _ (x_streq .neq (strB (bB (rdR b))) (strB b) (!(decide (bB (rdR b) = b))) rfl rfl rfl (congrArg not rg_seq) rfl) rfl ?_
              refine p_run _ (x_pick false (.bool true) (.bool (!(decide (bB (rdR b) = b)))) (.bool (!(decide (bB (rdR b) = b)))) rfl rfl rfl rfl rfl) rfl ?_
              exact T223 _ _ ⟨(.slice A210 ((bB (rdR b)).length) c211), (.string (strB (bB (rdR b)))), (.slice A b.length c), (.string (strB b)), (.bool (!(decide (bB (rdR b) = b)))), ⟨q87.a, .slice A210 ((bB (rdR b)).length) c211, .int .i64 (bE (rdR b)), .slice A b.length c, .agg ([.slice A b.length c, .int .i64 0, .bool false] : List Value).toArray, .pointer (some ⟨g12, 0, none⟩), .agg ((.int .u32 0 :: .bool false :: .int .u32 0 :: .int .u32 0 :: .int .i64 0 :: .int .u32 0 :: .int .u32 0 :: .slice none 0 0 :: .int .u64 0 :: .int .u32 0 :: .int .u32 0 :: .int .u32 0 :: .int .u32 0 :: .int .i64 0 :: .int .i64 0 :: .int .i64 0 :: []) : List Value).toArray, .pointer (some ⟨g12, 0, none⟩)⟩, ⟨.pointer (some ⟨g19, 15, none⟩), .tuple [.slice A210 ((bB (rdR b)).length) c211, .int .i64 (bE (rdR b))].toArray, rcV (rdR b) A204 c205, .tuple [.slice A210 ((bB (rdR b)).length) c211, .int .i64 (bE (rdR b))].toArray, .slice A210 ((bB (rdR b)).length) c211, .int .i64 (bE (rdR b)), .int .i64 (bE (rdR b)), .bool false⟩, (!(decide (bB (rdR b) = b))), rfl, rfl, HS⟩
            · skip
              refine p_off (by rw [hops217]; rfl) rfl ?_
              refine p_off (by rw [hops217]; rfl) rfl ?_
              refine p_off (by rw [hops217]; rfl) rfl ?_
              refine p_off (by rw [hops217]; rfl) rfl ?_
              refine p_off (by rw [hops217]; rfl) rfl ?_
              refine p_run _ (x_pick true (.bool true) (undef) (.bool true) rfl rfl rfl rfl rfl) rfl ?_
              exact T223 _ _ ⟨undef, undef, undef, undef, undef, ⟨q87.a, .slice A210 ((bB (rdR b)).length) c211, .int .i64 (bE (rdR b)), .slice A b.length c, .agg ([.slice A b.length c, .int .i64 0, .bool false] : List Value).toArray, .pointer (some ⟨g12, 0, none⟩), .agg ((.int .u32 0 :: .bool false :: .int .u32 0 :: .int .u32 0 :: .int .i64 0 :: .int .u32 0 :: .int .u32 0 :: .slice none 0 0 :: .int .u64 0 :: .int .u32 0 :: .int .u32 0 :: .int .u32 0 :: .int .u32 0 :: .int .i64 0 :: .int .i64 0 :: .int .i64 0 :: []) : List Value).toArray, .pointer (some ⟨g12, 0, none⟩)⟩, ⟨.pointer (some ⟨g19, 15, none⟩), .tuple [.slice A210 ((bB (rdR b)).length) c211, .int .i64 (bE (rdR b))].toArray, rcV (rdR b) A204 c205, .tuple [.slice A210 ((bB (rdR b)).length) c211, .int .i64 (bE (rdR b))].toArray, .slice A210 ((bB (rdR b)).length) c211, .int .i64 (bE (rdR b)), .int .i64 (bE (rdR b)), .bool true⟩, true, rfl, rfl, HS⟩
          clear HS
          rintro _ w_ ⟨uz105, uz106, uz107, uz108, uz109, qz221, qz222, bz220, rfl, hbz220, HS⟩
          skip
          clear hops217
          refine wpList_nil ?_
          refine hK216 _ _ ?_
          refine c_cond (t := bz220) rfl (fun hc225 => ?_) (fun hc225 => ?_)
          · rw [hbz220, hbz219] at hc225
            have hrf := rk_of hc225
            refine wp_seq_k (fun K226 hK227 => ?_)
            refine c_region (fun ops229 hops228 => ?_)
            clear hops228
            refine p_run _ (x_build (.int .u32 0 :: .bool false :: .int .u32 0 :: .int .u32 0 :: .int .i64 0 :: .int .u32 0 :: .int .u32 0 :: .slice none 0 0 :: .int .u64 0 :: .int .u32 0 :: .int .u32 0 :: .int .u32 0 :: .int .u32 0 :: .int .i64 0 :: .int .i64 0 :: .int .i64 0 :: []) rfl (by kernel_rfl)) rfl ?_
            refine St.stores (cs' := (.int .u32 0 :: .bool false :: .int .u32 0 :: .int .u32 0 :: .int .i64 0 :: .int .u32 0 :: .int .u32 0 :: .slice none 0 0 :: .int .u64 0 :: .int .u32 0 :: .int .u32 0 :: .int .u32 0 :: .int .u32 0 :: .int .i64 0 :: .int .i64 0 :: .int .i64 0 :: [])) (HS.front 4 rfl) (.int .u32 0 :: .bool false :: .int .u32 0 :: .int .u32 0 :: .int .i64 0 :: .int .u32 0 :: .int .u32 0 :: .slice none 0 0 :: .int .u64 0 :: .int .u32 0 :: .int .u32 0 :: .int .u32 0 :: .int .u32 0 :: .int .i64 0 :: .int .i64 0 :: .int .i64 0 :: []) 16 rfl rfl (by rfl) (by kernel_rfl) rfl (by simp) rfl ?_
            clear HS
            intro w230 HS
            refine p_run _ (x_assign (.int .i64 141) rfl rfl) rfl ?_
            refine wpList_nil ?_
            refine hK227 _ _ ?_
            refine wp_ret ?_
            try simp only [Exit.inBlock, Exit.then]
            refine c_ret (.tuple [.agg ((.int .u32 0 :: .bool false :: .int .u32 0 :: .int .u32 0 :: .int .i64 0 :: .int .u32 0 :: .int .u32 0 :: .slice none 0 0 :: .int .u64 0 :: .int .u32 0 :: .int .u32 0 :: .int .u32 0 :: .int .u32 0 :: .int .i64 0 :: .int .i64 0 :: .int .i64 0 :: []) : List Value).toArray, .int .i64 141].toArray) (r_ct rfl rfl (run_loadVar_aggn (by rfl) (.int .u32 0 :: .bool false :: .int .u32 0 :: .int .u32 0 :: .int .i64 0 :: .int .u32 0 :: .int .u32 0 :: .slice none 0 0 :: .int .u64 0 :: .int .u32 0 :: .int .u32 0 :: .int .u32 0 :: .int .u32 0 :: .int .i64 0 :: .int .i64 0 :: .int .i64 0 :: []) 16 (by kernel_rfl) rfl (bkCells (HS.get (.head _)) 0 _ (whole _))) rfl) ?_
            replace HS := HS.nil kSn rfl 48
            obtain ⟨e1, e2⟩ := rk_no hrf
            rw [e1, e2]
            exact ⟨none, 0, rfl, (((((HS.front 1 rfl).drop.front 1 rfl).drop.front 1 rfl).drop.front 1 rfl).drop.front 1 rfl).drop⟩
          · rw [hbz220, hbz219] at hc225
            have hrf := rk_of hc225
            refine wp_skip ?_
            refine hK214 _ _ ?_
            refine wp_seq_k (fun K231 hK232 => ?_)
            refine c_region (fun ops234 hops233 => ?_)
            clear hops233
            refine p_run _ (x_loads (.int .u32 ((rdR b).e) :: .bool ((rdR b).p) :: .int .u32 ((rdR b).b) :: .int .u32 ((rdR b).q) :: .int .i64 ((rdR b).l) :: .int .u32 ((rdR b).xe) :: .int .u32 ((rdR b).xq) :: .slice A204 ((rdR b).sn.length) c205 :: .int .u64 ((rdR b).s) :: .int .u32 ((rdR b).te) :: .int .u32 ((rdR b).tq) :: .int .u32 ((rdR b).be) :: .int .u32 ((rdR b).bq) :: .int .i64 ((rdR b).nx) :: .int .i64 ((rdR b).tt) :: .int .i64 ((rdR b).rt) :: []) 16 rfl rfl (bkCells (HS.get (.tail _ (.head _))) 0 _ rfl) (by rfl) (by kernel_rfl) rfl) rfl ?_
            refine St.stores (cs' := (.int .u32 ((rdR b).e) :: .bool ((rdR b).p) :: .int .u32 ((rdR b).b) :: .int .u32 ((rdR b).q) :: .int .i64 ((rdR b).l) :: .int .u32 ((rdR b).xe) :: .int .u32 ((rdR b).xq) :: .slice A204 ((rdR b).sn.length) c205 :: .int .u64 ((rdR b).s) :: .int .u32 ((rdR b).te) :: .int .u32 ((rdR b).tq) :: .int .u32 ((rdR b).be) :: .int .u32 ((rdR b).bq) :: .int .i64 ((rdR b).nx) :: .int .i64 ((rdR b).tt) :: .int .i64 ((rdR b).rt) :: [])) (HS.front 4 rfl) (.int .u32 ((rdR b).e) :: .bool ((rdR b).p) :: .int .u32 ((rdR b).b) :: .int .u32 ((rdR b).q) :: .int .i64 ((rdR b).l) :: .int .u32 ((rdR b).xe) :: .int .u32 ((rdR b).xq) :: .slice A204 ((rdR b).sn.length) c205 :: .int .u64 ((rdR b).s) :: .int .u32 ((rdR b).te) :: .int .u32 ((rdR b).tq) :: .int .u32 ((rdR b).be) :: .int .u32 ((rdR b).bq) :: .int .i64 ((rdR b).nx) :: .int .i64 ((rdR b).tt) :: .int .i64 ((rdR b).rt) :: []) 16 rfl rfl (by rfl) (by kernel_rfl) rfl (by simp) rfl ?_
            clear HS
            intro w235 HS
            refine p_run _ (x_assign (.int .i64 0) rfl rfl) rfl ?_
            refine wpList_nil ?_
            obtain ⟨qz236, hqz236⟩ : ∃ q_ : V8, q_ = ⟨.bool bz219, uz105, uz106, uz107, uz108, uz109, .bool bz220, undef⟩ := ⟨_, rfl⟩
            refine fr_at (l' := (.slice A b.length c :: undef :: .pointer (some ⟨g5, 0, none⟩) :: .int .i64 0 :: .pointer (some ⟨g12, 0, none⟩) :: .pointer (some ⟨g19, 0, none⟩) :: .int .u64 (rn 1 (k7 b)) :: .int .u64 ((nSn b) : Int) :: V8.l qz221 (V8.l qz47 (V8.l qz64 (V8.l qz80 (V8.l qz157 (V8.l q88 (V8.l q89 (V8.l qz158 (V8.l qz175 (V8.l qz192 (V8.l qz201 (V8.l qz222 (V8.l qz236 (rcV (rdR b) A204 c205 :: []))))))))))))))) (by subst hqz236; rfl) ?_
            refine hK232 _ _ ?_
            refine wp_ret ?_
            try simp only [Exit.inBlock, Exit.then]
            refine c_ret (.tuple [rcV (rdR b) A204 c205, .int .i64 0].toArray) (r_ct rfl rfl (run_loadVar_aggn (by rfl) (.int .u32 ((rdR b).e) :: .bool ((rdR b).p) :: .int .u32 ((rdR b).b) :: .int .u32 ((rdR b).q) :: .int .i64 ((rdR b).l) :: .int .u32 ((rdR b).xe) :: .int .u32 ((rdR b).xq) :: .slice A204 ((rdR b).sn.length) c205 :: .int .u64 ((rdR b).s) :: .int .u32 ((rdR b).te) :: .int .u32 ((rdR b).tq) :: .int .u32 ((rdR b).be) :: .int .u32 ((rdR b).bq) :: .int .i64 ((rdR b).nx) :: .int .i64 ((rdR b).tt) :: .int .i64 ((rdR b).rt) :: []) 16 (by kernel_rfl) rfl (bkCells (HS.get (.head _)) 0 _ (whole _))) rfl) ?_
            obtain ⟨e1, e2⟩ := rk_yes hrf
            rw [e1, e2]
            exact ⟨_, _, rfl, HS.drop.drop.drop.drop⟩
end Go.Proofs.Ytkiiangookibnaa
