/- frame.Read. -/
import Derived.Test.YtmachdikonelbaaZFrameReadsFr4
import Derived.Test.YtmachdikonelbaaZFrameReadsFr6
set_option linter.unusedVariables false
set_option linter.unusedSimpArgs false
namespace Go.Proofs.Ytmachdikonelbaa
open Go.RowKit Go.Proofs.YtmachdikonelbaaW.PrintWords Go.Proofs.YtmachdikonelbaaW.PrintLast Crc
abbrev U4f8 (l : List Value) : List Value := undef :: undef :: undef :: undef :: l
abbrev U8f8 (l : List Value) : List Value := U4f8 (U4f8 l)
abbrev U16f8 (l : List Value) : List Value := U8f8 (U8f8 l)
abbrev U32f8 (l : List Value) : List Value := U16f8 (U16f8 l)
def zMg : Mg := ⟨0, 0, 0, 0, 0, 0, 0, 0, 0, 0, [], []⟩
def inM (b : List UInt8) : Mg := rdM (bdyS b)
def fOk (b : List UInt8) : Bool := okS b && mgOk (inM b) && decide (sealB (mgB (inM b)) = b)
def frM (b : List UInt8) : Mg := if fOk b = true then inM b else zMg
def frE (b : List UInt8) : Int := if fOk b = true then 0 else 181
theorem bd8 (s : Rs) : 0 ≤ rn 8 s ∧ rn 8 s < 18446744073709551616 := rn_bd 8 (by decide) s
theorem b1_i64 (s : Rs) : i64 (rn 1 s) := by have := bd1 s; exact ⟨by omega, by omega⟩
theorem b4_u32 (s : Rs) : u32 (rn 4 s) := bd4 s
theorem rdL_mem {α : Type} {f : Rs → α × Rs} {p : α → Prop} (h : ∀ s, p (f s).1) : ∀ (n : Nat) (s : Rs), ∀ x ∈ (rdL f n s).1, p x
  | 0, _, x, hx => by cases hx
  | n + 1, s, x, hx => by
    unfold rdL at hx
    rcases List.mem_append.1 hx with hx | hx
    · exact rdL_mem h n s x hx
    · obtain rfl := List.mem_singleton.1 hx
      exact h _
theorem rdM_it (xs : List UInt8) : (rdM xs).its = (stI xs (nIt xs)).1 := by rw [rdM_eq]
theorem rdM_hv (xs : List UInt8) : (rdM xs).hvs = (stH xs (nHv xs)).1 := by rw [rdM_eq]
theorem wf_its (xs : List UInt8) : ∀ x ∈ (rdM xs).its, i64 x.1 ∧ x.2.2.length = 16 := by
  rw [rdM_it]
  unfold stI
  exact rdL_mem (f := rdIt) (p := fun (x : It) => i64 x.1 ∧ x.2.2.length = 16) (fun s => ⟨b1_i64 _, rdIt_len s⟩) _ _
theorem wf_hvs (xs : List UInt8) : ∀ x ∈ (rdM xs).hvs, u32 x.1 ∧ u32 x.2.1 ∧ u32 x.2.2 := by
  rw [rdM_hv]
  unfold stH
  exact rdL_mem (f := rdHv) (p := fun (x : Hv) => u32 x.1 ∧ u32 x.2.1 ∧ u32 x.2.2) (fun s => ⟨b4_u32 _, b4_u32 _, b4_u32 _⟩) _ _
theorem rdM_wf (xs : List UInt8) : (rdM xs).wf := by
  have h1 := wf_its xs
  have h2 := wf_hvs xs
  refine ⟨?_, ?_, ?_, ?_, ?_, ?_, ?_, ?_, ?_, ?_, h1, h2⟩ <;> clear h1 h2 <;> rw [rdM_eq]
  · exact b1_i64 _
  · exact b4_u32 _
  · exact bd8 _
  · exact b4_u32 _
  · exact b4_u32 _
  · exact b4_u32 _
  · exact b4_u32 _
  · exact b1_i64 _
  · exact b1_i64 _
  · exact b4_u32 _
theorem rdM_its (xs : List UInt8) : (rdM xs).its.length ≤ 4 := by
  rw [rdM_it]
  unfold stI
  rw [rdL_len]; exact nIt_le xs
theorem rdM_hvs (xs : List UInt8) : (rdM xs).hvs.length ≤ 8 := by
  rw [rdM_hv]
  unfold stH
  rw [rdL_len]; exact nHv_le xs
theorem bdy_le (b : List UInt8) : (bdyS b).length ≤ b.length := by
  unfold bdyS
  split
  · rw [List.length_take]; omega
  · exact Nat.zero_le _
theorem fb_yes {m : Mg} (h : mgOk m = true) : fbB m = sealB (mgB m) ∧ fbE m = 0 := ⟨if_pos h, if_pos h⟩
theorem fb_no {m : Mg} (h : mgOk m = false) : fbB m = [] ∧ fbE m = 181 := ⟨if_neg (by rw [h]; decide), if_neg (by rw [h]; decide)⟩
theorem fbB_le {m : Mg} (hw : m.wf) (h1 : m.its.length ≤ 4) (h2 : m.hvs.length ≤ 8) : (fbB m).length ≤ 1000 := by
  unfold fbB
  split
  · rw [sealB_length, mgB_len hw]; omega
  · exact Nat.zero_le _
theorem fr_yes {b : List UInt8} (h : fOk b = true) : frM b = inM b ∧ frE b = 0 := ⟨if_pos h, if_pos h⟩
theorem fr_no {b : List UInt8} (h : fOk b = false) : frM b = zMg ∧ frE b = 181 := ⟨if_neg (by rw [h]; decide), if_neg (by rw [h]; decide)⟩
set_option maxRecDepth 10000 in
set_option maxHeartbeats 2000000 in
theorem fread_any (w : World) (A : Option Addr) (c : Nat) (b : List UInt8) (hr : Sl w A c b) (hl : b.length ≤ 100000) : Calls Try.prog 10 #[.slice A b.length c] w fun e w' => ∃ A1 c1 A2 c2, e = .returned (.tuple #[mgV (frM b) A1 c1 A2 c2, .int .i64 (frE b)]) ∧ St w (fun _ => False) w' [row kIt rfl 53 (.slice A1 (frM b).its.length c1) (frM b).its, row kHv rfl 55 (.slice A2 (frM b).hvs.length c2) (frM b).hvs] := by
  have HS := St.empty w
  rcases h1 : okS b with _ | _
  · skip
    have hok : fOk b = false := by unfold fOk; rw [h1]; rfl
    refine c_enter Try.func10 rfl 36 rfl (.slice A b.length c :: U32f8 (undef :: undef :: undef :: [])) rfl ?_
    refine wp_seq_k (fun K1 hK2 => ?_)
    refine c_region (fun ops4 hops3 => ?_)
    clear hops3
    refine St.wAlloc HS (cs := [.int .i64 0, .int .u32 0, .int .u64 0, .int .u32 0, .int .u32 0, .int .u32 0, .int .u32 0, .int .i64 0, .int .i64 0, .int .u32 0, .slice none 0 0, .slice none 0 0]) (.agg [.int .i64 0, .int .u32 0, .int .u64 0, .int .u32 0, .int .u32 0, .int .u32 0, .int .u32 0, .int .i64 0, .int .i64 0, .int .u32 0, .slice none 0 0, .slice none 0 0].toArray) (by kernel_rfl) rfl ?_
    clear HS
    intro g5 w6 hg7 HS
    refine p_run _ (x_assign (.int .i64 0) rfl rfl) rfl ?_
    refine wpList_nil ?_
    refine hK2 _ _ ?_
    refine wp_seq_k (fun K8 hK9 => ?_)
    refine c_region (fun ops11 hops10 => ?_)
    clear hops10
    refine p_run _ (x_move (.slice A b.length c) rfl rfl) rfl ?_
    refine w_call [.slice A b.length c] Try.func22 (by kernel_rfl) (by rfl) rfl ?_
    refine (open_any _ A c b (hr.below HS.belowOf) hl).mono ?_
    rintro e w14 ⟨A12, c13, rfl, hk_⟩
    replace HS := HS.more hk_
    clear hk_
    skip
    rw [h1]
    refine ⟨_, rfl, ?_⟩
    refine p_run _ (x_move (.tuple [.slice A12 ((bdyS b).length) c13, .bool false].toArray) rfl rfl) rfl ?_
    refine p_run _ (x_extract (vs := [.slice A12 ((bdyS b).length) c13, .bool false]) 0 (.slice A12 ((bdyS b).length) c13) rfl rfl rfl) rfl ?_
    refine p_run (l' := (.slice A b.length c :: undef :: .pointer (some ⟨g5, 0, none⟩) :: .int .i64 0 :: U4f8 (undef :: .tuple [.slice A12 ((bdyS b).length) c13, .bool false].toArray :: .slice A b.length c :: .tuple [.slice A12 ((bdyS b).length) c13, .bool false].toArray :: .slice A12 ((bdyS b).length) c13 :: .bool false :: U16f8 (U4f8 (undef :: undef :: []))))) _ (x_extract (vs := [.slice A12 ((bdyS b).length) c13, .bool false]) 1 (.bool false) rfl rfl rfl) rfl ?_
    refine p_run _ (x_assign (.slice A12 ((bdyS b).length) c13) rfl rfl) rfl ?_
    refine p_run _ (x_assign (.bool false) rfl rfl) rfl ?_
    refine wpList_nil ?_
    refine hK9 _ _ ?_
    refine wp_seq_k (fun K15 hK16 => ?_)
    refine wp_seq_k (fun K17 hK18 => ?_)
    refine c_region (fun ops20 hops19 => ?_)
    clear hops19
    refine p_run _ (x_move (.bool false) rfl rfl) rfl ?_
    refine p_run _ (x_not false rfl rfl) rfl ?_
    refine wpList_nil ?_
    refine hK18 _ _ ?_
    refine c_true rfl ?_
    refine wp_seq_k (fun K21 hK22 => ?_)
    refine c_region (fun ops24 hops23 => ?_)
    clear hops23
    refine p_run _ (x_build [.int .i64 0, .int .u32 0, .int .u64 0, .int .u32 0, .int .u32 0, .int .u32 0, .int .u32 0, .int .i64 0, .int .i64 0, .int .u32 0, .slice none 0 0, .slice none 0 0] rfl (by kernel_rfl)) rfl ?_
    refine St.stores (cs' := [.int .i64 0, .int .u32 0, .int .u64 0, .int .u32 0, .int .u32 0, .int .u32 0, .int .u32 0, .int .i64 0, .int .i64 0, .int .u32 0, .slice none 0 0, .slice none 0 0]) (HS.front 1 rfl) [.int .i64 0, .int .u32 0, .int .u64 0, .int .u32 0, .int .u32 0, .int .u32 0, .int .u32 0, .int .i64 0, .int .i64 0, .int .u32 0, .slice none 0 0, .slice none 0 0] 12 rfl rfl (by rfl) (by kernel_rfl) rfl (by simp) rfl ?_
    clear HS
    intro w25 HS
    refine p_run _ (x_assign (.int .i64 181) rfl rfl) rfl ?_
    refine wpList_nil ?_
    refine fr_at (l' := (.slice A b.length c :: undef :: .pointer (some ⟨g5, 0, none⟩) :: .int .i64 181 :: .slice A12 ((bdyS b).length) c13 :: .bool false :: undef :: undef :: undef :: .tuple [.slice A12 ((bdyS b).length) c13, .bool false].toArray :: .slice A b.length c :: .tuple [.slice A12 ((bdyS b).length) c13, .bool false].toArray :: .slice A12 ((bdyS b).length) c13 :: .bool false :: .bool false :: .bool true :: .agg ([.int .i64 0, .int .u32 0, .int .u64 0, .int .u32 0, .int .u32 0, .int .u32 0, .int .u32 0, .int .i64 0, .int .i64 0, .int .u32 0, .slice none 0 0, .slice none 0 0] : List Value).toArray :: U16f8 (undef :: undef :: undef :: []))) rfl ?_
    refine hK22 _ _ ?_
    refine wp_ret ?_
    try simp only [Exit.inBlock, Exit.then]
    refine c_ret (.tuple [.agg ([.int .i64 0, .int .u32 0, .int .u64 0, .int .u32 0, .int .u32 0, .int .u32 0, .int .u32 0, .int .i64 0, .int .i64 0, .int .u32 0, .slice none 0 0, .slice none 0 0] : List Value).toArray, .int .i64 181].toArray) (r_ct rfl rfl (run_loadVar_aggn (by rfl) [.int .i64 0, .int .u32 0, .int .u64 0, .int .u32 0, .int .u32 0, .int .u32 0, .int .u32 0, .int .i64 0, .int .i64 0, .int .u32 0, .slice none 0 0, .slice none 0 0] 12 (by kernel_rfl) rfl (bkCells (HS.get (.head _)) 0 _ (whole _))) rfl) ?_
    replace HS := HS.nil kHv rfl 55
    replace HS := HS.nil kIt rfl 53
    obtain ⟨e1, e2⟩ := fr_no hok
    rw [e1, e2]
    exact ⟨none, 0, none, 0, rfl, ((((HS.front 2 rfl).drop.front 2 rfl).drop.front 1 rfl).front 1 rfl)⟩
  · skip
    rcases h2 : mgOk (inM b) with _ | _
    · skip
      have hok : fOk b = false := by unfold fOk; rw [h1, h2]; rfl
      refine c_enter Try.func10 rfl 36 rfl (.slice A b.length c :: U32f8 (undef :: undef :: undef :: [])) rfl ?_
      refine wp_seq_k (fun K1 hK2 => ?_)
      refine c_region (fun ops4 hops3 => ?_)
      clear hops3
      refine St.wAlloc HS (cs := [.int .i64 0, .int .u32 0, .int .u64 0, .int .u32 0, .int .u32 0, .int .u32 0, .int .u32 0, .int .i64 0, .int .i64 0, .int .u32 0, .slice none 0 0, .slice none 0 0]) (.agg [.int .i64 0, .int .u32 0, .int .u64 0, .int .u32 0, .int .u32 0, .int .u32 0, .int .u32 0, .int .i64 0, .int .i64 0, .int .u32 0, .slice none 0 0, .slice none 0 0].toArray) (by kernel_rfl) rfl ?_
      clear HS
      intro g5 w6 hg7 HS
      refine p_run _ (x_assign (.int .i64 0) rfl rfl) rfl ?_
      refine wpList_nil ?_
      refine hK2 _ _ ?_
      refine wp_seq_k (fun K8 hK9 => ?_)
      refine c_region (fun ops11 hops10 => ?_)
      clear hops10
      refine p_run _ (x_move (.slice A b.length c) rfl rfl) rfl ?_
      refine w_call [.slice A b.length c] Try.func22 (by kernel_rfl) (by rfl) rfl ?_
      refine (open_any _ A c b (hr.below HS.belowOf) hl).mono ?_
      rintro e w14 ⟨A12, c13, rfl, hk_⟩
      replace HS := HS.more hk_
      clear hk_
      skip
      rw [h1]
      refine ⟨_, rfl, ?_⟩
      refine p_run _ (x_move (.tuple [.slice A12 ((bdyS b).length) c13, .bool true].toArray) rfl rfl) rfl ?_
      refine p_run _ (x_extract (vs := [.slice A12 ((bdyS b).length) c13, .bool true]) 0 (.slice A12 ((bdyS b).length) c13) rfl rfl rfl) rfl ?_
      refine p_run (l' := (.slice A b.length c :: undef :: .pointer (some ⟨g5, 0, none⟩) :: .int .i64 0 :: U4f8 (undef :: .tuple [.slice A12 ((bdyS b).length) c13, .bool true].toArray :: .slice A b.length c :: .tuple [.slice A12 ((bdyS b).length) c13, .bool true].toArray :: .slice A12 ((bdyS b).length) c13 :: .bool true :: U16f8 (U4f8 (undef :: undef :: []))))) _ (x_extract (vs := [.slice A12 ((bdyS b).length) c13, .bool true]) 1 (.bool true) rfl rfl rfl) rfl ?_
      refine p_run _ (x_assign (.slice A12 ((bdyS b).length) c13) rfl rfl) rfl ?_
      refine p_run _ (x_assign (.bool true) rfl rfl) rfl ?_
      refine wpList_nil ?_
      refine hK9 _ _ ?_
      refine wp_seq_k (fun K15 hK16 => ?_)
      refine wp_seq_k (fun K17 hK18 => ?_)
      refine c_region (fun ops20 hops19 => ?_)
      clear hops19
      refine p_run _ (x_move (.bool true) rfl rfl) rfl ?_
      refine p_run _ (x_not true rfl rfl) rfl ?_
      refine wpList_nil ?_
      refine hK18 _ _ ?_
      refine c_false rfl ?_
      refine wp_skip ?_
      refine hK16 _ _ ?_
      refine wp_seq_k (fun K21 hK22 => ?_)
      refine c_region (fun ops24 hops23 => ?_)
      clear hops23
      refine p_run _ (x_move (.slice A12 ((bdyS b).length) c13) rfl rfl) rfl ?_
      refine w_call [.slice A12 ((bdyS b).length) c13] Try.func23 (by kernel_rfl) (by rfl) rfl ?_
      refine (St.newR0 HS _ c13 _ (bdyS b) rfl (row_rd (HS.get (.head _))).2.2 (row_rd (HS.get (.head _))).2.1 (by have := bdy_le b; omega)).mono ?_
      clear HS
      rintro e w27 ⟨g25, g26, rfl, HS⟩
      refine ⟨_, rfl, ?_⟩
      refine p_run (l' := (.slice A b.length c :: undef :: .pointer (some ⟨g5, 0, none⟩) :: .int .i64 0 :: .slice A12 ((bdyS b).length) c13 :: .bool true :: undef :: undef :: undef :: .tuple [.slice A12 ((bdyS b).length) c13, .bool true].toArray :: .slice A b.length c :: .tuple [.slice A12 ((bdyS b).length) c13, .bool true].toArray :: .slice A12 ((bdyS b).length) c13 :: .bool true :: .bool true :: .bool false :: undef :: .slice A12 ((bdyS b).length) c13 :: .pointer (some ⟨g26, 0, none⟩) :: .agg ([.pointer (some ⟨g26, 0, none⟩)] : List Value).toArray :: U16f8 ([]))) _ (x_build [.pointer (some ⟨g26, 0, none⟩)] rfl (by kernel_rfl)) rfl ?_
      refine w_call [.agg ([.pointer (some ⟨g26, 0, none⟩)] : List Value).toArray] Try.func24 (by kernel_rfl) (by rfl) rfl ?_
      refine (iread_any (base := g25) (R := g26) (xs := bdyS b) HS).mono ?_
      clear HS
      rintro e w31 ⟨v28, v29, v30, rfl, HS⟩
      replace HS : St _ _ _ (row kIt rfl 53 v28 (inM b).its :: row kHv rfl 55 v29 (inM b).hvs :: _) := HS
      obtain ⟨A32, c33, hv34, hcp35, -⟩ := row_reads (HS.get (.head _))
      subst hv34
      obtain ⟨A36, c37, hv38, hcp39, -⟩ := row_reads (HS.get (.tail _ (.head _)))
      subst hv38
      refine ⟨_, rfl, ?_⟩
      refine St.wAlloc HS (cs := [.int .i64 0, .int .u32 0, .int .u64 0, .int .u32 0, .int .u32 0, .int .u32 0, .int .u32 0, .int .i64 0, .int .i64 0, .int .u32 0, .slice none 0 0, .slice none 0 0]) (.agg [.int .i64 0, .int .u32 0, .int .u64 0, .int .u32 0, .int .u32 0, .int .u32 0, .int .u32 0, .int .i64 0, .int .i64 0, .int .u32 0, .slice none 0 0, .slice none 0 0].toArray) (by kernel_rfl) rfl ?_
      clear HS
      intro g40 w41 hg42 HS
      refine St.stores (cs' := [.int .i64 ((inM b).k), .int .u32 ((inM b).e), .int .u64 ((inM b).s), .int .u32 ((inM b).te), .int .u32 ((inM b).ts), .int .u32 ((inM b).be), .int .u32 ((inM b).bs), .int .i64 ((inM b).ix), .int .i64 ((inM b).tt), .int .u32 ((inM b).tk), .slice A32 (((inM b).its).length) c33, .slice A36 (((inM b).hvs).length) c37]) HS [.int .i64 ((inM b).k), .int .u32 ((inM b).e), .int .u64 ((inM b).s), .int .u32 ((inM b).te), .int .u32 ((inM b).ts), .int .u32 ((inM b).be), .int .u32 ((inM b).bs), .int .i64 ((inM b).ix), .int .i64 ((inM b).tt), .int .u32 ((inM b).tk), .slice A32 (((inM b).its).length) c33, .slice A36 (((inM b).hvs).length) c37] 12 rfl rfl (by rfl) (by kernel_rfl) rfl (by simp) rfl ?_
      clear HS
      intro w43 HS
      refine wpList_nil ?_
      refine hK22 _ _ ?_
      refine wp_seq_k (fun K44 hK45 => ?_)
      refine wp_seq_k (fun K46 hK47 => ?_)
      refine c_region (fun ops49 hops48 => ?_)
      clear hops48
      refine p_run _ (x_loads [.int .i64 ((inM b).k), .int .u32 ((inM b).e), .int .u64 ((inM b).s), .int .u32 ((inM b).te), .int .u32 ((inM b).ts), .int .u32 ((inM b).be), .int .u32 ((inM b).bs), .int .i64 ((inM b).ix), .int .i64 ((inM b).tt), .int .u32 ((inM b).tk), .slice A32 (((inM b).its).length) c33, .slice A36 (((inM b).hvs).length) c37] 12 rfl rfl (bkCells (HS.get (.head _)) 0 _ rfl) (by rfl) (by kernel_rfl) rfl) rfl ?_
      refine w_call [mgV (inM b) A32 c33 A36 c37] Try.func9 (by kernel_rfl) (by rfl) rfl ?_
      refine (fbytes_any _ (inM b) A32 c33 (row_C (HS.get (.tail _ (.head _)))).2.2 A36 c37 (row_C (HS.get (.tail _ (.tail _ (.head _))))).2.2 (by have := rdM_its (bdyS b); show (rdM _).its.length ≤ 1000; omega) (by have := rdM_hvs (bdyS b); show (rdM _).hvs.length ≤ 1000; omega) (rdM_wf _)).mono ?_
      rintro e w52 ⟨A50, c51, rfl, hk_⟩
      replace HS := HS.more hk_
      clear hk_
      refine ⟨_, rfl, ?_⟩
      refine p_run _ (x_move (.tuple [.slice A50 ((fbB (inM b)).length) c51, .int .i64 (fbE (inM b))].toArray) rfl rfl) rfl ?_
      refine p_run _ (x_extract (vs := [.slice A50 ((fbB (inM b)).length) c51, .int .i64 (fbE (inM b))]) 0 (.slice A50 ((fbB (inM b)).length) c51) rfl rfl rfl) rfl ?_
      refine p_run (l' := (.slice A b.length c :: undef :: .pointer (some ⟨g5, 0, none⟩) :: .int .i64 0 :: .slice A12 ((bdyS b).length) c13 :: .bool true :: .pointer (some ⟨g40, 0, none⟩) :: undef :: undef :: .tuple [.slice A12 ((bdyS b).length) c13, .bool true].toArray :: .slice A b.length c :: .tuple [.slice A12 ((bdyS b).length) c13, .bool true].toArray :: .slice A12 ((bdyS b).length) c13 :: .bool true :: .bool true :: .bool false :: undef :: .slice A12 ((bdyS b).length) c13 :: .pointer (some ⟨g26, 0, none⟩) :: .agg ([.pointer (some ⟨g26, 0, none⟩)] : List Value).toArray :: mgV (inM b) A32 c33 A36 c37 :: .tuple [.slice A50 ((fbB (inM b)).length) c51, .int .i64 (fbE (inM b))].toArray :: mgV (inM b) A32 c33 A36 c37 :: .tuple [.slice A50 ((fbB (inM b)).length) c51, .int .i64 (fbE (inM b))].toArray :: .slice A50 ((fbB (inM b)).length) c51 :: .int .i64 (fbE (inM b)) :: U8f8 (undef :: undef :: []))) _ (x_extract (vs := [.slice A50 ((fbB (inM b)).length) c51, .int .i64 (fbE (inM b))]) 1 (.int .i64 (fbE (inM b))) rfl rfl rfl) rfl ?_
      refine p_run _ (x_assign (.slice A50 ((fbB (inM b)).length) c51) rfl rfl) rfl ?_
      refine p_run _ (x_assign (.int .i64 (fbE (inM b))) rfl rfl) rfl ?_
      refine wpList_nil ?_
      refine hK47 _ _ ?_
      refine wp_seq_k (fun K53 hK54 => ?_)
      refine c_region (fun ops56 hops55 => ?_)
      refine p_run _ (x_move (.int .i64 (fbE (inM b))) rfl rfl) rfl ?_
      refine p_run _ (x_cmp (k := .i64) (m := (fbE (inM b))) (n := 0) .neq true rfl rfl rfl (by rw [(fb_no h2).2]; rfl) rfl) rfl ?_
      refine p_run _ (x_move (.bool true) rfl rfl) rfl ?_
      refine p_off (by rw [hops55]; rfl) rfl ?_
      refine p_off (l' := (.slice A b.length c :: undef :: .pointer (some ⟨g5, 0, none⟩) :: .int .i64 0 :: .slice A12 ((bdyS b).length) c13 :: .bool true :: .pointer (some ⟨g40, 0, none⟩) :: .slice A50 ((fbB (inM b)).length) c51 :: .int .i64 (fbE (inM b)) :: .tuple [.slice A12 ((bdyS b).length) c13, .bool true].toArray :: .slice A b.length c :: .tuple [.slice A12 ((bdyS b).length) c13, .bool true].toArray :: .slice A12 ((bdyS b).length) c13 :: .bool true :: .bool true :: .bool false :: undef :: .slice A12 ((bdyS b).length) c13 :: .pointer (some ⟨g26, 0, none⟩) :: .agg ([.pointer (some ⟨g26, 0, none⟩)] : List Value).toArray :: mgV (inM b) A32 c33 A36 c37 :: .tuple [.slice A50 ((fbB (inM b)).length) c51, .int .i64 (fbE (inM b))].toArray :: mgV (inM b) A32 c33 A36 c37 :: .tuple [.slice A50 ((fbB (inM b)).length) c51, .int .i64 (fbE (inM b))].toArray :: .slice A50 ((fbB (inM b)).length) c51 :: .int .i64 (fbE (inM b)) :: .int .i64 (fbE (inM b)) :: .bool true :: .bool true :: U4f8 (undef :: undef :: undef :: []))) (by rw [hops55]; rfl) rfl ?_
      refine p_off (by rw [hops55]; rfl) rfl ?_
      refine p_off (by rw [hops55]; rfl) rfl ?_
      refine p_run _ (x_pick true (.bool true) (undef) (.bool true) rfl rfl rfl rfl rfl) rfl ?_
      clear hops55
      refine wpList_nil ?_
      refine hK54 _ _ ?_
      refine c_true rfl ?_
      refine wp_seq_k (fun K57 hK58 => ?_)
      refine c_region (fun ops60 hops59 => ?_)
      clear hops59
      refine p_run _ (x_build [.int .i64 0, .int .u32 0, .int .u64 0, .int .u32 0, .int .u32 0, .int .u32 0, .int .u32 0, .int .i64 0, .int .i64 0, .int .u32 0, .slice none 0 0, .slice none 0 0] rfl (by kernel_rfl)) rfl ?_
      refine St.stores (cs' := [.int .i64 0, .int .u32 0, .int .u64 0, .int .u32 0, .int .u32 0, .int .u32 0, .int .u32 0, .int .i64 0, .int .i64 0, .int .u32 0, .slice none 0 0, .slice none 0 0]) (HS.front 6 rfl) [.int .i64 0, .int .u32 0, .int .u64 0, .int .u32 0, .int .u32 0, .int .u32 0, .int .u32 0, .int .i64 0, .int .i64 0, .int .u32 0, .slice none 0 0, .slice none 0 0] 12 rfl rfl (by rfl) (by kernel_rfl) rfl (by simp) rfl ?_
      clear HS
      intro w61 HS
      refine p_run _ (x_assign (.int .i64 181) rfl rfl) rfl ?_
      refine wpList_nil ?_
      refine fr_at (l' := (.slice A b.length c :: undef :: .pointer (some ⟨g5, 0, none⟩) :: .int .i64 181 :: .slice A12 ((bdyS b).length) c13 :: .bool true :: .pointer (some ⟨g40, 0, none⟩) :: .slice A50 ((fbB (inM b)).length) c51 :: .int .i64 (fbE (inM b)) :: .tuple [.slice A12 ((bdyS b).length) c13, .bool true].toArray :: .slice A b.length c :: .tuple [.slice A12 ((bdyS b).length) c13, .bool true].toArray :: .slice A12 ((bdyS b).length) c13 :: .bool true :: .bool true :: .bool false :: undef :: .slice A12 ((bdyS b).length) c13 :: .pointer (some ⟨g26, 0, none⟩) :: .agg ([.pointer (some ⟨g26, 0, none⟩)] : List Value).toArray :: mgV (inM b) A32 c33 A36 c37 :: .tuple [.slice A50 ((fbB (inM b)).length) c51, .int .i64 (fbE (inM b))].toArray :: mgV (inM b) A32 c33 A36 c37 :: .tuple [.slice A50 ((fbB (inM b)).length) c51, .int .i64 (fbE (inM b))].toArray :: .slice A50 ((fbB (inM b)).length) c51 :: .int .i64 (fbE (inM b)) :: .int .i64 (fbE (inM b)) :: .bool true :: .bool true :: U4f8 (.bool true :: .agg ([.int .i64 0, .int .u32 0, .int .u64 0, .int .u32 0, .int .u32 0, .int .u32 0, .int .u32 0, .int .i64 0, .int .i64 0, .int .u32 0, .slice none 0 0, .slice none 0 0] : List Value).toArray :: undef :: []))) rfl ?_
      refine hK58 _ _ ?_
      refine wp_ret ?_
      try simp only [Exit.inBlock, Exit.then]
      refine c_ret (.tuple [.agg ([.int .i64 0, .int .u32 0, .int .u64 0, .int .u32 0, .int .u32 0, .int .u32 0, .int .u32 0, .int .i64 0, .int .i64 0, .int .u32 0, .slice none 0 0, .slice none 0 0] : List Value).toArray, .int .i64 181].toArray) (r_ct rfl rfl (run_loadVar_aggn (by rfl) [.int .i64 0, .int .u32 0, .int .u64 0, .int .u32 0, .int .u32 0, .int .u32 0, .int .u32 0, .int .i64 0, .int .i64 0, .int .u32 0, .slice none 0 0, .slice none 0 0] 12 (by kernel_rfl) rfl (bkCells (HS.get (.head _)) 0 _ (whole _))) rfl) ?_
      replace HS := HS.nil kHv rfl 55
      replace HS := HS.nil kIt rfl 53
      obtain ⟨e1, e2⟩ := fr_no hok
      rw [e1, e2]
      exact ⟨none, 0, none, 0, rfl, (((((((((HS.front 2 rfl).drop.front 2 rfl).drop.front 2 rfl).drop.front 2 rfl).drop.front 2 rfl).drop.front 2 rfl).drop.front 2 rfl).drop.front 1 rfl).front 1 rfl)⟩
    · skip
      rcases h3 : decide (fbB (inM b) = b) with _ | _
      · skip
        have hok : fOk b = false := by unfold fOk; rw [h1, h2, ← (fb_yes h2).1, h3]; rfl
        refine c_enter Try.func10 rfl 36 rfl (.slice A b.length c :: U32f8 (undef :: undef :: undef :: [])) rfl ?_
        refine wp_seq_k (fun K1 hK2 => ?_)
        refine c_region (fun ops4 hops3 => ?_)
        clear hops3
        refine St.wAlloc HS (cs := [.int .i64 0, .int .u32 0, .int .u64 0, .int .u32 0, .int .u32 0, .int .u32 0, .int .u32 0, .int .i64 0, .int .i64 0, .int .u32 0, .slice none 0 0, .slice none 0 0]) (.agg [.int .i64 0, .int .u32 0, .int .u64 0, .int .u32 0, .int .u32 0, .int .u32 0, .int .u32 0, .int .i64 0, .int .i64 0, .int .u32 0, .slice none 0 0, .slice none 0 0].toArray) (by kernel_rfl) rfl ?_
        clear HS
        intro g5 w6 hg7 HS
        refine p_run _ (x_assign (.int .i64 0) rfl rfl) rfl ?_
        refine wpList_nil ?_
        refine hK2 _ _ ?_
        refine wp_seq_k (fun K8 hK9 => ?_)
        refine c_region (fun ops11 hops10 => ?_)
        clear hops10
        refine p_run _ (x_move (.slice A b.length c) rfl rfl) rfl ?_
        refine w_call [.slice A b.length c] Try.func22 (by kernel_rfl) (by rfl) rfl ?_
        refine (open_any _ A c b (hr.below HS.belowOf) hl).mono ?_
        rintro e w14 ⟨A12, c13, rfl, hk_⟩
        replace HS := HS.more hk_
        clear hk_
        skip
        rw [h1]
        refine ⟨_, rfl, ?_⟩
        refine p_run _ (x_move (.tuple [.slice A12 ((bdyS b).length) c13, .bool true].toArray) rfl rfl) rfl ?_
        refine p_run _ (x_extract (vs := [.slice A12 ((bdyS b).length) c13, .bool true]) 0 (.slice A12 ((bdyS b).length) c13) rfl rfl rfl) rfl ?_
        refine p_run (l' := (.slice A b.length c :: undef :: .pointer (some ⟨g5, 0, none⟩) :: .int .i64 0 :: U4f8 (undef :: .tuple [.slice A12 ((bdyS b).length) c13, .bool true].toArray :: .slice A b.length c :: .tuple [.slice A12 ((bdyS b).length) c13, .bool true].toArray :: .slice A12 ((bdyS b).length) c13 :: .bool true :: U16f8 (U4f8 (undef :: undef :: []))))) _ (x_extract (vs := [.slice A12 ((bdyS b).length) c13, .bool true]) 1 (.bool true) rfl rfl rfl) rfl ?_
        refine p_run _ (x_assign (.slice A12 ((bdyS b).length) c13) rfl rfl) rfl ?_
        refine p_run _ (x_assign (.bool true) rfl rfl) rfl ?_
        refine wpList_nil ?_
        refine hK9 _ _ ?_
        refine wp_seq_k (fun K15 hK16 => ?_)
        refine wp_seq_k (fun K17 hK18 => ?_)
        refine c_region (fun ops20 hops19 => ?_)
        clear hops19
        refine p_run _ (x_move (.bool true) rfl rfl) rfl ?_
        refine p_run _ (x_not true rfl rfl) rfl ?_
        refine wpList_nil ?_
        refine hK18 _ _ ?_
        refine c_false rfl ?_
        refine wp_skip ?_
        refine hK16 _ _ ?_
        refine wp_seq_k (fun K21 hK22 => ?_)
        refine c_region (fun ops24 hops23 => ?_)
        clear hops23
        refine p_run _ (x_move (.slice A12 ((bdyS b).length) c13) rfl rfl) rfl ?_
        refine w_call [.slice A12 ((bdyS b).length) c13] Try.func23 (by kernel_rfl) (by rfl) rfl ?_
        refine (St.newR0 HS _ c13 _ (bdyS b) rfl (row_rd (HS.get (.head _))).2.2 (row_rd (HS.get (.head _))).2.1 (by have := bdy_le b; omega)).mono ?_
        clear HS
        rintro e w27 ⟨g25, g26, rfl, HS⟩
        refine ⟨_, rfl, ?_⟩
        refine p_run (l' := (.slice A b.length c :: undef :: .pointer (some ⟨g5, 0, none⟩) :: .int .i64 0 :: .slice A12 ((bdyS b).length) c13 :: .bool true :: undef :: undef :: undef :: .tuple [.slice A12 ((bdyS b).length) c13, .bool true].toArray :: .slice A b.length c :: .tuple [.slice A12 ((bdyS b).length) c13, .bool true].toArray :: .slice A12 ((bdyS b).length) c13 :: .bool true :: .bool true :: .bool false :: undef :: .slice A12 ((bdyS b).length) c13 :: .pointer (some ⟨g26, 0, none⟩) :: .agg ([.pointer (some ⟨g26, 0, none⟩)] : List Value).toArray :: U16f8 ([]))) _ (x_build [.pointer (some ⟨g26, 0, none⟩)] rfl (by kernel_rfl)) rfl ?_
        refine w_call [.agg ([.pointer (some ⟨g26, 0, none⟩)] : List Value).toArray] Try.func24 (by kernel_rfl) (by rfl) rfl ?_
        refine (iread_any (base := g25) (R := g26) (xs := bdyS b) HS).mono ?_
        clear HS
        rintro e w31 ⟨v28, v29, v30, rfl, HS⟩
        replace HS : St _ _ _ (row kIt rfl 53 v28 (inM b).its :: row kHv rfl 55 v29 (inM b).hvs :: _) := HS
        obtain ⟨A32, c33, hv34, hcp35, -⟩ := row_reads (HS.get (.head _))
        subst hv34
        obtain ⟨A36, c37, hv38, hcp39, -⟩ := row_reads (HS.get (.tail _ (.head _)))
        subst hv38
        refine ⟨_, rfl, ?_⟩
        refine St.wAlloc HS (cs := [.int .i64 0, .int .u32 0, .int .u64 0, .int .u32 0, .int .u32 0, .int .u32 0, .int .u32 0, .int .i64 0, .int .i64 0, .int .u32 0, .slice none 0 0, .slice none 0 0]) (.agg [.int .i64 0, .int .u32 0, .int .u64 0, .int .u32 0, .int .u32 0, .int .u32 0, .int .u32 0, .int .i64 0, .int .i64 0, .int .u32 0, .slice none 0 0, .slice none 0 0].toArray) (by kernel_rfl) rfl ?_
        clear HS
        intro g40 w41 hg42 HS
        refine St.stores (cs' := [.int .i64 ((inM b).k), .int .u32 ((inM b).e), .int .u64 ((inM b).s), .int .u32 ((inM b).te), .int .u32 ((inM b).ts), .int .u32 ((inM b).be), .int .u32 ((inM b).bs), .int .i64 ((inM b).ix), .int .i64 ((inM b).tt), .int .u32 ((inM b).tk), .slice A32 (((inM b).its).length) c33, .slice A36 (((inM b).hvs).length) c37]) HS [.int .i64 ((inM b).k), .int .u32 ((inM b).e), .int .u64 ((inM b).s), .int .u32 ((inM b).te), .int .u32 ((inM b).ts), .int .u32 ((inM b).be), .int .u32 ((inM b).bs), .int .i64 ((inM b).ix), .int .i64 ((inM b).tt), .int .u32 ((inM b).tk), .slice A32 (((inM b).its).length) c33, .slice A36 (((inM b).hvs).length) c37] 12 rfl rfl (by rfl) (by kernel_rfl) rfl (by simp) rfl ?_
        clear HS
        intro w43 HS
        refine wpList_nil ?_
        refine hK22 _ _ ?_
        refine wp_seq_k (fun K44 hK45 => ?_)
        refine wp_seq_k (fun K46 hK47 => ?_)
        refine c_region (fun ops49 hops48 => ?_)
        clear hops48
        refine p_run _ (x_loads [.int .i64 ((inM b).k), .int .u32 ((inM b).e), .int .u64 ((inM b).s), .int .u32 ((inM b).te), .int .u32 ((inM b).ts), .int .u32 ((inM b).be), .int .u32 ((inM b).bs), .int .i64 ((inM b).ix), .int .i64 ((inM b).tt), .int .u32 ((inM b).tk), .slice A32 (((inM b).its).length) c33, .slice A36 (((inM b).hvs).length) c37] 12 rfl rfl (bkCells (HS.get (.head _)) 0 _ rfl) (by rfl) (by kernel_rfl) rfl) rfl ?_
        refine w_call [mgV (inM b) A32 c33 A36 c37] Try.func9 (by kernel_rfl) (by rfl) rfl ?_
        refine (fbytes_any _ (inM b) A32 c33 (row_C (HS.get (.tail _ (.head _)))).2.2 A36 c37 (row_C (HS.get (.tail _ (.tail _ (.head _))))).2.2 (by have := rdM_its (bdyS b); show (rdM _).its.length ≤ 1000; omega) (by have := rdM_hvs (bdyS b); show (rdM _).hvs.length ≤ 1000; omega) (rdM_wf _)).mono ?_
        rintro e w52 ⟨A50, c51, rfl, hk_⟩
        replace HS := HS.more hk_
        clear hk_
        refine ⟨_, rfl, ?_⟩
        refine p_run _ (x_move (.tuple [.slice A50 ((fbB (inM b)).length) c51, .int .i64 (fbE (inM b))].toArray) rfl rfl) rfl ?_
        refine p_run _ (x_extract (vs := [.slice A50 ((fbB (inM b)).length) c51, .int .i64 (fbE (inM b))]) 0 (.slice A50 ((fbB (inM b)).length) c51) rfl rfl rfl) rfl ?_
        refine p_run (l' := (.slice A b.length c :: undef :: .pointer (some ⟨g5, 0, none⟩) :: .int .i64 0 :: .slice A12 ((bdyS b).length) c13 :: .bool true :: .pointer (some ⟨g40, 0, none⟩) :: undef :: undef :: .tuple [.slice A12 ((bdyS b).length) c13, .bool true].toArray :: .slice A b.length c :: .tuple [.slice A12 ((bdyS b).length) c13, .bool true].toArray :: .slice A12 ((bdyS b).length) c13 :: .bool true :: .bool true :: .bool false :: undef :: .slice A12 ((bdyS b).length) c13 :: .pointer (some ⟨g26, 0, none⟩) :: .agg ([.pointer (some ⟨g26, 0, none⟩)] : List Value).toArray :: mgV (inM b) A32 c33 A36 c37 :: .tuple [.slice A50 ((fbB (inM b)).length) c51, .int .i64 (fbE (inM b))].toArray :: mgV (inM b) A32 c33 A36 c37 :: .tuple [.slice A50 ((fbB (inM b)).length) c51, .int .i64 (fbE (inM b))].toArray :: .slice A50 ((fbB (inM b)).length) c51 :: .int .i64 (fbE (inM b)) :: U8f8 (undef :: undef :: []))) _ (x_extract (vs := [.slice A50 ((fbB (inM b)).length) c51, .int .i64 (fbE (inM b))]) 1 (.int .i64 (fbE (inM b))) rfl rfl rfl) rfl ?_
        refine p_run _ (x_assign (.slice A50 ((fbB (inM b)).length) c51) rfl rfl) rfl ?_
        refine p_run _ (x_assign (.int .i64 (fbE (inM b))) rfl rfl) rfl ?_
        refine wpList_nil ?_
        refine hK47 _ _ ?_
        refine wp_seq_k (fun K53 hK54 => ?_)
        refine c_region (fun ops56 hops55 => ?_)
        refine p_run _ (x_move (.int .i64 (fbE (inM b))) rfl rfl) rfl ?_
        refine p_run _ (x_cmp (k := .i64) (m := (fbE (inM b))) (n := 0) .neq false rfl rfl rfl (by rw [(fb_yes h2).2]; rfl) rfl) rfl ?_
        refine p_run _ (x_move (.bool false) rfl rfl) rfl ?_
        refine p_on rfl (by rw [hops55]; rfl) ?_
        refine p_run _ (x_move (.slice A50 ((fbB (inM b)).length) c51) rfl rfl) rfl ?_
        refine p_on rfl (by rw [hops55]; rfl) ?_
        refine p_run (l' := (.slice A b.length c :: undef :: .pointer (some ⟨g5, 0, none⟩) :: .int .i64 0 :: .slice A12 ((bdyS b).length) c13 :: .bool true :: .pointer (some ⟨g40, 0, none⟩) :: .slice A50 ((fbB (inM b)).length) c51 :: .int .i64 (fbE (inM b)) :: .tuple [.slice A12 ((bdyS b).length) c13, .bool true].toArray :: .slice A b.length c :: .tuple [.slice A12 ((bdyS b).length) c13, .bool true].toArray :: .slice A12 ((bdyS b).length) c13 :: .bool true :: .bool true :: .bool false :: undef :: .slice A12 ((bdyS b).length) c13 :: .pointer (some ⟨g26, 0, none⟩) :: .agg ([.pointer (some ⟨g26, 0, none⟩)] : List Value).toArray :: mgV (inM b) A32 c33 A36 c37 :: .tuple [.slice A50 ((fbB (inM b)).length) c51, .int .i64 (fbE (inM b))].toArray :: mgV (inM b) A32 c33 A36 c37 :: .tuple [.slice A50 ((fbB (inM b)).length) c51, .int .i64 (fbE (inM b))].toArray :: .slice A50 ((fbB (inM b)).length) c51 :: .int .i64 (fbE (inM b)) :: .int .i64 (fbE (inM b)) :: .bool false :: .bool false :: .slice A50 ((fbB (inM b)).length) c51 :: .slice A b.length c :: U4f8 (undef :: []))) _ (x_move (.slice A b.length c) rfl rfl) rfl ?_
        refine p_on rfl (by rw [hops55]; rfl) ?_
        refine w_call [.slice A50 ((fbB (inM b)).length) c51, .slice A b.length c] Try.func25 (by kernel_rfl) (by rfl) rfl ?_
        refine (beq_any _ A50 c51 (fbB (inM b)) (row_rd (HS.get (.head _))).2.2 A c b ((hr.below HS.belowOf).rd) (by have := fbB_le (rdM_wf (bdyS b)) (rdM_its _) (rdM_hvs _); show (fbB (rdM _)).length ≤ _; omega) hl).mono ?_
        rintro e w57 ⟨he_, hb_⟩
        rw [h3] at he_
        subst he_
        replace HS := HS.here hb_
        clear hb_
        refine ⟨_, rfl, ?_⟩
        refine p_on rfl (by rw [hops55]; rfl) ?_
        refine p_run _ (x_not false rfl rfl) rfl ?_
        refine p_run _ (x_pick false (.bool true) (.bool true) (.bool true) rfl rfl rfl rfl rfl) rfl ?_
        clear hops55
        refine wpList_nil ?_
        refine hK54 _ _ ?_
        refine c_true rfl ?_
        refine wp_seq_k (fun K58 hK59 => ?_)
        refine c_region (fun ops61 hops60 => ?_)
        clear hops60
        refine p_run _ (x_build [.int .i64 0, .int .u32 0, .int .u64 0, .int .u32 0, .int .u32 0, .int .u32 0, .int .u32 0, .int .i64 0, .int .i64 0, .int .u32 0, .slice none 0 0, .slice none 0 0] rfl (by kernel_rfl)) rfl ?_
        refine St.stores (cs' := [.int .i64 0, .int .u32 0, .int .u64 0, .int .u32 0, .int .u32 0, .int .u32 0, .int .u32 0, .int .i64 0, .int .i64 0, .int .u32 0, .slice none 0 0, .slice none 0 0]) (HS.front 6 rfl) [.int .i64 0, .int .u32 0, .int .u64 0, .int .u32 0, .int .u32 0, .int .u32 0, .int .u32 0, .int .i64 0, .int .i64 0, .int .u32 0, .slice none 0 0, .slice none 0 0] 12 rfl rfl (by rfl) (by kernel_rfl) rfl (by simp) rfl ?_
        clear HS
        intro w62 HS
        refine p_run _ (x_assign (.int .i64 181) rfl rfl) rfl ?_
        refine wpList_nil ?_
        refine fr_at (l' := (.slice A b.length c :: undef :: .pointer (some ⟨g5, 0, none⟩) :: .int .i64 181 :: .slice A12 ((bdyS b).length) c13 :: .bool true :: .pointer (some ⟨g40, 0, none⟩) :: .slice A50 ((fbB (inM b)).length) c51 :: .int .i64 (fbE (inM b)) :: .tuple [.slice A12 ((bdyS b).length) c13, .bool true].toArray :: .slice A b.length c :: .tuple [.slice A12 ((bdyS b).length) c13, .bool true].toArray :: .slice A12 ((bdyS b).length) c13 :: .bool true :: .bool true :: .bool false :: undef :: .slice A12 ((bdyS b).length) c13 :: .pointer (some ⟨g26, 0, none⟩) :: .agg ([.pointer (some ⟨g26, 0, none⟩)] : List Value).toArray :: mgV (inM b) A32 c33 A36 c37 :: .tuple [.slice A50 ((fbB (inM b)).length) c51, .int .i64 (fbE (inM b))].toArray :: mgV (inM b) A32 c33 A36 c37 :: .tuple [.slice A50 ((fbB (inM b)).length) c51, .int .i64 (fbE (inM b))].toArray :: .slice A50 ((fbB (inM b)).length) c51 :: .int .i64 (fbE (inM b)) :: .int .i64 (fbE (inM b)) :: .bool false :: .bool false :: .slice A50 ((fbB (inM b)).length) c51 :: .slice A b.length c :: .bool false :: .bool true :: .bool true :: .agg ([.int .i64 0, .int .u32 0, .int .u64 0, .int .u32 0, .int .u32 0, .int .u32 0, .int .u32 0, .int .i64 0, .int .i64 0, .int .u32 0, .slice none 0 0, .slice none 0 0] : List Value).toArray :: undef :: [])) rfl ?_
        refine hK59 _ _ ?_
        refine wp_ret ?_
        try simp only [Exit.inBlock, Exit.then]
        refine c_ret (.tuple [.agg ([.int .i64 0, .int .u32 0, .int .u64 0, .int .u32 0, .int .u32 0, .int .u32 0, .int .u32 0, .int .i64 0, .int .i64 0, .int .u32 0, .slice none 0 0, .slice none 0 0] : List Value).toArray, .int .i64 181].toArray) (r_ct rfl rfl (run_loadVar_aggn (by rfl) [.int .i64 0, .int .u32 0, .int .u64 0, .int .u32 0, .int .u32 0, .int .u32 0, .int .u32 0, .int .i64 0, .int .i64 0, .int .u32 0, .slice none 0 0, .slice none 0 0] 12 (by kernel_rfl) rfl (bkCells (HS.get (.head _)) 0 _ (whole _))) rfl) ?_
        replace HS := HS.nil kHv rfl 55
        replace HS := HS.nil kIt rfl 53
        obtain ⟨e1, e2⟩ := fr_no hok
        rw [e1, e2]
        exact ⟨none, 0, none, 0, rfl, (((((((((HS.front 2 rfl).drop.front 2 rfl).drop.front 2 rfl).drop.front 2 rfl).drop.front 2 rfl).drop.front 2 rfl).drop.front 2 rfl).drop.front 1 rfl).front 1 rfl)⟩
      · skip
        have hok : fOk b = true := by unfold fOk; rw [h1, h2, ← (fb_yes h2).1, h3]; rfl
        refine c_enter Try.func10 rfl 36 rfl (.slice A b.length c :: U32f8 (undef :: undef :: undef :: [])) rfl ?_
        refine wp_seq_k (fun K1 hK2 => ?_)
        refine c_region (fun ops4 hops3 => ?_)
        clear hops3
        refine St.wAlloc HS (cs := [.int .i64 0, .int .u32 0, .int .u64 0, .int .u32 0, .int .u32 0, .int .u32 0, .int .u32 0, .int .i64 0, .int .i64 0, .int .u32 0, .slice none 0 0, .slice none 0 0]) (.agg [.int .i64 0, .int .u32 0, .int .u64 0, .int .u32 0, .int .u32 0, .int .u32 0, .int .u32 0, .int .i64 0, .int .i64 0, .int .u32 0, .slice none 0 0, .slice none 0 0].toArray) (by kernel_rfl) rfl ?_
        clear HS
        intro g5 w6 hg7 HS
        refine p_run _ (x_assign (.int .i64 0) rfl rfl) rfl ?_
        refine wpList_nil ?_
        refine hK2 _ _ ?_
        refine wp_seq_k (fun K8 hK9 => ?_)
        refine c_region (fun ops11 hops10 => ?_)
        clear hops10
        refine p_run _ (x_move (.slice A b.length c) rfl rfl) rfl ?_
        refine w_call [.slice A b.length c] Try.func22 (by kernel_rfl) (by rfl) rfl ?_
        refine (open_any _ A c b (hr.below HS.belowOf) hl).mono ?_
        rintro e w14 ⟨A12, c13, rfl, hk_⟩
        replace HS := HS.more hk_
        clear hk_
        skip
        rw [h1]
        refine ⟨_, rfl, ?_⟩
        refine p_run _ (x_move (.tuple [.slice A12 ((bdyS b).length) c13, .bool true].toArray) rfl rfl) rfl ?_
        refine p_run _ (x_extract (vs := [.slice A12 ((bdyS b).length) c13, .bool true]) 0 (.slice A12 ((bdyS b).length) c13) rfl rfl rfl) rfl ?_
        refine p_run (l' := (.slice A b.length c :: undef :: .pointer (some ⟨g5, 0, none⟩) :: .int .i64 0 :: U4f8 (undef :: .tuple [.slice A12 ((bdyS b).length) c13, .bool true].toArray :: .slice A b.length c :: .tuple [.slice A12 ((bdyS b).length) c13, .bool true].toArray :: .slice A12 ((bdyS b).length) c13 :: .bool true :: U16f8 (U4f8 (undef :: undef :: []))))) _ (x_extract (vs := [.slice A12 ((bdyS b).length) c13, .bool true]) 1 (.bool true) rfl rfl rfl) rfl ?_
        refine p_run _ (x_assign (.slice A12 ((bdyS b).length) c13) rfl rfl) rfl ?_
        refine p_run _ (x_assign (.bool true) rfl rfl) rfl ?_
        refine wpList_nil ?_
        refine hK9 _ _ ?_
        refine wp_seq_k (fun K15 hK16 => ?_)
        refine wp_seq_k (fun K17 hK18 => ?_)
        refine c_region (fun ops20 hops19 => ?_)
        clear hops19
        refine p_run _ (x_move (.bool true) rfl rfl) rfl ?_
        refine p_run _ (x_not true rfl rfl) rfl ?_
        refine wpList_nil ?_
        refine hK18 _ _ ?_
        refine c_false rfl ?_
        refine wp_skip ?_
        refine hK16 _ _ ?_
        refine wp_seq_k (fun K21 hK22 => ?_)
        refine c_region (fun ops24 hops23 => ?_)
        clear hops23
        refine p_run _ (x_move (.slice A12 ((bdyS b).length) c13) rfl rfl) rfl ?_
        refine w_call [.slice A12 ((bdyS b).length) c13] Try.func23 (by kernel_rfl) (by rfl) rfl ?_
        refine (St.newR0 HS _ c13 _ (bdyS b) rfl (row_rd (HS.get (.head _))).2.2 (row_rd (HS.get (.head _))).2.1 (by have := bdy_le b; omega)).mono ?_
        clear HS
        rintro e w27 ⟨g25, g26, rfl, HS⟩
        refine ⟨_, rfl, ?_⟩
        refine p_run (l' := (.slice A b.length c :: undef :: .pointer (some ⟨g5, 0, none⟩) :: .int .i64 0 :: .slice A12 ((bdyS b).length) c13 :: .bool true :: undef :: undef :: undef :: .tuple [.slice A12 ((bdyS b).length) c13, .bool true].toArray :: .slice A b.length c :: .tuple [.slice A12 ((bdyS b).length) c13, .bool true].toArray :: .slice A12 ((bdyS b).length) c13 :: .bool true :: .bool true :: .bool false :: undef :: .slice A12 ((bdyS b).length) c13 :: .pointer (some ⟨g26, 0, none⟩) :: .agg ([.pointer (some ⟨g26, 0, none⟩)] : List Value).toArray :: U16f8 ([]))) _ (x_build [.pointer (some ⟨g26, 0, none⟩)] rfl (by kernel_rfl)) rfl ?_
        refine w_call [.agg ([.pointer (some ⟨g26, 0, none⟩)] : List Value).toArray] Try.func24 (by kernel_rfl) (by rfl) rfl ?_
        refine (iread_any (base := g25) (R := g26) (xs := bdyS b) HS).mono ?_
        clear HS
        rintro e w31 ⟨v28, v29, v30, rfl, HS⟩
        replace HS : St _ _ _ (row kIt rfl 53 v28 (inM b).its :: row kHv rfl 55 v29 (inM b).hvs :: _) := HS
        obtain ⟨A32, c33, hv34, hcp35, -⟩ := row_reads (HS.get (.head _))
        subst hv34
        obtain ⟨A36, c37, hv38, hcp39, -⟩ := row_reads (HS.get (.tail _ (.head _)))
        subst hv38
        refine ⟨_, rfl, ?_⟩
        refine St.wAlloc HS (cs := [.int .i64 0, .int .u32 0, .int .u64 0, .int .u32 0, .int .u32 0, .int .u32 0, .int .u32 0, .int .i64 0, .int .i64 0, .int .u32 0, .slice none 0 0, .slice none 0 0]) (.agg [.int .i64 0, .int .u32 0, .int .u64 0, .int .u32 0, .int .u32 0, .int .u32 0, .int .u32 0, .int .i64 0, .int .i64 0, .int .u32 0, .slice none 0 0, .slice none 0 0].toArray) (by kernel_rfl) rfl ?_
        clear HS
        intro g40 w41 hg42 HS
        refine St.stores (cs' := [.int .i64 ((inM b).k), .int .u32 ((inM b).e), .int .u64 ((inM b).s), .int .u32 ((inM b).te), .int .u32 ((inM b).ts), .int .u32 ((inM b).be), .int .u32 ((inM b).bs), .int .i64 ((inM b).ix), .int .i64 ((inM b).tt), .int .u32 ((inM b).tk), .slice A32 (((inM b).its).length) c33, .slice A36 (((inM b).hvs).length) c37]) HS [.int .i64 ((inM b).k), .int .u32 ((inM b).e), .int .u64 ((inM b).s), .int .u32 ((inM b).te), .int .u32 ((inM b).ts), .int .u32 ((inM b).be), .int .u32 ((inM b).bs), .int .i64 ((inM b).ix), .int .i64 ((inM b).tt), .int .u32 ((inM b).tk), .slice A32 (((inM b).its).length) c33, .slice A36 (((inM b).hvs).length) c37] 12 rfl rfl (by rfl) (by kernel_rfl) rfl (by simp) rfl ?_
        clear HS
        intro w43 HS
        refine wpList_nil ?_
        refine hK22 _ _ ?_
        refine wp_seq_k (fun K44 hK45 => ?_)
        refine wp_seq_k (fun K46 hK47 => ?_)
        refine c_region (fun ops49 hops48 => ?_)
        clear hops48
        refine p_run _ (x_loads [.int .i64 ((inM b).k), .int .u32 ((inM b).e), .int .u64 ((inM b).s), .int .u32 ((inM b).te), .int .u32 ((inM b).ts), .int .u32 ((inM b).be), .int .u32 ((inM b).bs), .int .i64 ((inM b).ix), .int .i64 ((inM b).tt), .int .u32 ((inM b).tk), .slice A32 (((inM b).its).length) c33, .slice A36 (((inM b).hvs).length) c37] 12 rfl rfl (bkCells (HS.get (.head _)) 0 _ rfl) (by rfl) (by kernel_rfl) rfl) rfl ?_
        refine w_call [mgV (inM b) A32 c33 A36 c37] Try.func9 (by kernel_rfl) (by rfl) rfl ?_
        refine (fbytes_any _ (inM b) A32 c33 (row_C (HS.get (.tail _ (.head _)))).2.2 A36 c37 (row_C (HS.get (.tail _ (.tail _ (.head _))))).2.2 (by have := rdM_its (bdyS b); show (rdM _).its.length ≤ 1000; omega) (by have := rdM_hvs (bdyS b); show (rdM _).hvs.length ≤ 1000; omega) (rdM_wf _)).mono ?_
        rintro e w52 ⟨A50, c51, rfl, hk_⟩
        replace HS := HS.more hk_
        clear hk_
        refine ⟨_, rfl, ?_⟩
        refine p_run _ (x_move (.tuple [.slice A50 ((fbB (inM b)).length) c51, .int .i64 (fbE (inM b))].toArray) rfl rfl) rfl ?_
        refine p_run _ (x_extract (vs := [.slice A50 ((fbB (inM b)).length) c51, .int .i64 (fbE (inM b))]) 0 (.slice A50 ((fbB (inM b)).length) c51) rfl rfl rfl) rfl ?_
        refine p_run (l' := (.slice A b.length c :: undef :: .pointer (some ⟨g5, 0, none⟩) :: .int .i64 0 :: .slice A12 ((bdyS b).length) c13 :: .bool true :: .pointer (some ⟨g40, 0, none⟩) :: undef :: undef :: .tuple [.slice A12 ((bdyS b).length) c13, .bool true].toArray :: .slice A b.length c :: .tuple [.slice A12 ((bdyS b).length) c13, .bool true].toArray :: .slice A12 ((bdyS b).length) c13 :: .bool true :: .bool true :: .bool false :: undef :: .slice A12 ((bdyS b).length) c13 :: .pointer (some ⟨g26, 0, none⟩) :: .agg ([.pointer (some ⟨g26, 0, none⟩)] : List Value).toArray :: mgV (inM b) A32 c33 A36 c37 :: .tuple [.slice A50 ((fbB (inM b)).length) c51, .int .i64 (fbE (inM b))].toArray :: mgV (inM b) A32 c33 A36 c37 :: .tuple [.slice A50 ((fbB (inM b)).length) c51, .int .i64 (fbE (inM b))].toArray :: .slice A50 ((fbB (inM b)).length) c51 :: .int .i64 (fbE (inM b)) :: U8f8 (undef :: undef :: []))) _ (x_extract (vs := [.slice A50 ((fbB (inM b)).length) c51, .int .i64 (fbE (inM b))]) 1 (.int .i64 (fbE (inM b))) rfl rfl rfl) rfl ?_
        refine p_run _ (x_assign (.slice A50 ((fbB (inM b)).length) c51) rfl rfl) rfl ?_
        refine p_run _ (x_assign (.int .i64 (fbE (inM b))) rfl rfl) rfl ?_
        refine wpList_nil ?_
        refine hK47 _ _ ?_
        refine wp_seq_k (fun K53 hK54 => ?_)
        refine c_region (fun ops56 hops55 => ?_)
        refine p_run _ (x_move (.int .i64 (fbE (inM b))) rfl rfl) rfl ?_
        refine p_run _ (x_cmp (k := .i64) (m := (fbE (inM b))) (n := 0) .neq false rfl rfl rfl (by rw [(fb_yes h2).2]; rfl) rfl) rfl ?_
        refine p_run _ (x_move (.bool false) rfl rfl) rfl ?_
        refine p_on rfl (by rw [hops55]; rfl) ?_
        refine p_run _ (x_move (.slice A50 ((fbB (inM b)).length) c51) rfl rfl) rfl ?_
        refine p_on rfl (by rw [hops55]; rfl) ?_
        refine p_run (l' := (.slice A b.length c :: undef :: .pointer (some ⟨g5, 0, none⟩) :: .int .i64 0 :: .slice A12 ((bdyS b).length) c13 :: .bool true :: .pointer (some ⟨g40, 0, none⟩) :: .slice A50 ((fbB (inM b)).length) c51 :: .int .i64 (fbE (inM b)) :: .tuple [.slice A12 ((bdyS b).length) c13, .bool true].toArray :: .slice A b.length c :: .tuple [.slice A12 ((bdyS b).length) c13, .bool true].toArray :: .slice A12 ((bdyS b).length) c13 :: .bool true :: .bool true :: .bool false :: undef :: .slice A12 ((bdyS b).length) c13 :: .pointer (some ⟨g26, 0, none⟩) :: .agg ([.pointer (some ⟨g26, 0, none⟩)] : List Value).toArray :: mgV (inM b) A32 c33 A36 c37 :: .tuple [.slice A50 ((fbB (inM b)).length) c51, .int .i64 (fbE (inM b))].toArray :: mgV (inM b) A32 c33 A36 c37 :: .tuple [.slice A50 ((fbB (inM b)).length) c51, .int .i64 (fbE (inM b))].toArray :: .slice A50 ((fbB (inM b)).length) c51 :: .int .i64 (fbE (inM b)) :: .int .i64 (fbE (inM b)) :: .bool false :: .bool false :: .slice A50 ((fbB (inM b)).length) c51 :: .slice A b.length c :: U4f8 (undef :: []))) _ (x_move (.slice A b.length c) rfl rfl) rfl ?_
        refine p_on rfl (by rw [hops55]; rfl) ?_
        refine w_call [.slice A50 ((fbB (inM b)).length) c51, .slice A b.length c] Try.func25 (by kernel_rfl) (by rfl) rfl ?_
        refine (beq_any _ A50 c51 (fbB (inM b)) (row_rd (HS.get (.head _))).2.2 A c b ((hr.below HS.belowOf).rd) (by have := fbB_le (rdM_wf (bdyS b)) (rdM_its _) (rdM_hvs _); show (fbB (rdM _)).length ≤ _; omega) hl).mono ?_
        rintro e w57 ⟨he_, hb_⟩
        rw [h3] at he_
        subst he_
        replace HS := HS.here hb_
        clear hb_
        refine ⟨_, rfl, ?_⟩
        refine p_on rfl (by rw [hops55]; rfl) ?_
        refine p_run _ (x_not true rfl rfl) rfl ?_
        refine p_run _ (x_pick false (.bool true) (.bool false) (.bool false) rfl rfl rfl rfl rfl) rfl ?_
        clear hops55
        refine wpList_nil ?_
        refine hK54 _ _ ?_
        refine c_false rfl ?_
        refine wp_skip ?_
        refine hK45 _ _ ?_
        refine wp_seq_k (fun K58 hK59 => ?_)
        refine c_region (fun ops61 hops60 => ?_)
        clear hops60
        refine p_run _ (x_loads [.int .i64 ((inM b).k), .int .u32 ((inM b).e), .int .u64 ((inM b).s), .int .u32 ((inM b).te), .int .u32 ((inM b).ts), .int .u32 ((inM b).be), .int .u32 ((inM b).bs), .int .i64 ((inM b).ix), .int .i64 ((inM b).tt), .int .u32 ((inM b).tk), .slice A32 (((inM b).its).length) c33, .slice A36 (((inM b).hvs).length) c37] 12 rfl rfl (bkCells (HS.get (.tail _ (.head _))) 0 _ rfl) (by rfl) (by kernel_rfl) rfl) rfl ?_
        refine St.stores (cs' := [.int .i64 ((inM b).k), .int .u32 ((inM b).e), .int .u64 ((inM b).s), .int .u32 ((inM b).te), .int .u32 ((inM b).ts), .int .u32 ((inM b).be), .int .u32 ((inM b).bs), .int .i64 ((inM b).ix), .int .i64 ((inM b).tt), .int .u32 ((inM b).tk), .slice A32 (((inM b).its).length) c33, .slice A36 (((inM b).hvs).length) c37]) (HS.front 6 rfl) [.int .i64 ((inM b).k), .int .u32 ((inM b).e), .int .u64 ((inM b).s), .int .u32 ((inM b).te), .int .u32 ((inM b).ts), .int .u32 ((inM b).be), .int .u32 ((inM b).bs), .int .i64 ((inM b).ix), .int .i64 ((inM b).tt), .int .u32 ((inM b).tk), .slice A32 (((inM b).its).length) c33, .slice A36 (((inM b).hvs).length) c37] 12 rfl rfl (by rfl) (by kernel_rfl) rfl (by simp) rfl ?_
        clear HS
        intro w62 HS
        refine p_run _ (x_assign (.int .i64 0) rfl rfl) rfl ?_
        refine wpList_nil ?_
        refine fr_at (l' := (.slice A b.length c :: undef :: .pointer (some ⟨g5, 0, none⟩) :: .int .i64 0 :: .slice A12 ((bdyS b).length) c13 :: .bool true :: .pointer (some ⟨g40, 0, none⟩) :: .slice A50 ((fbB (inM b)).length) c51 :: .int .i64 (fbE (inM b)) :: .tuple [.slice A12 ((bdyS b).length) c13, .bool true].toArray :: .slice A b.length c :: .tuple [.slice A12 ((bdyS b).length) c13, .bool true].toArray :: .slice A12 ((bdyS b).length) c13 :: .bool true :: .bool true :: .bool false :: undef :: .slice A12 ((bdyS b).length) c13 :: .pointer (some ⟨g26, 0, none⟩) :: .agg ([.pointer (some ⟨g26, 0, none⟩)] : List Value).toArray :: mgV (inM b) A32 c33 A36 c37 :: .tuple [.slice A50 ((fbB (inM b)).length) c51, .int .i64 (fbE (inM b))].toArray :: mgV (inM b) A32 c33 A36 c37 :: .tuple [.slice A50 ((fbB (inM b)).length) c51, .int .i64 (fbE (inM b))].toArray :: .slice A50 ((fbB (inM b)).length) c51 :: .int .i64 (fbE (inM b)) :: .int .i64 (fbE (inM b)) :: .bool false :: .bool false :: .slice A50 ((fbB (inM b)).length) c51 :: .slice A b.length c :: .bool true :: .bool false :: .bool false :: undef :: mgV (inM b) A32 c33 A36 c37 :: [])) rfl ?_
        refine hK59 _ _ ?_
        refine wp_ret ?_
        try simp only [Exit.inBlock, Exit.then]
        refine c_ret (.tuple [mgV (inM b) A32 c33 A36 c37, .int .i64 0].toArray) (r_ct rfl rfl (run_loadVar_aggn (by rfl) [.int .i64 ((inM b).k), .int .u32 ((inM b).e), .int .u64 ((inM b).s), .int .u32 ((inM b).te), .int .u32 ((inM b).ts), .int .u32 ((inM b).be), .int .u32 ((inM b).bs), .int .i64 ((inM b).ix), .int .i64 ((inM b).tt), .int .u32 ((inM b).tk), .slice A32 (((inM b).its).length) c33, .slice A36 (((inM b).hvs).length) c37] 12 (by kernel_rfl) rfl (bkCells (HS.get (.head _)) 0 _ (whole _))) rfl) ?_
        obtain ⟨e1, e2⟩ := fr_yes hok
        rw [e1, e2]
        exact ⟨_, _, _, _, rfl, ((((HS.drop.drop.drop.front 2 rfl).drop.front 2 rfl).drop.front 1 rfl).front 1 rfl)⟩
end Go.Proofs.Ytmachdikonelbaa
