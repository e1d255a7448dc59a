/- The document's tally: Page, Open, Area. -/
import Derived.Test.YtiokdpnhaemciaaRby
import Derived.Test.YtiokdpnhaemciaaTlP
set_option linter.unusedVariables false
set_option linter.unusedSimpArgs false
namespace Go.Proofs.Ytiokdpnhaemciaa
open Go.RowKit Go.Proofs.YtiokdpnhaemciaaW.PrintWords Go.Proofs.YtiokdpnhaemciaaW.PrintLast Crc
section
variable {w0 W : World} {F : Nat → Prop} {L : List Res}
theorem fsB_one (g : UInt64) (c : List UInt8) : fsB [(8, g)] ++ c = gnB g ++ c := by
  unfold fsB gnB
  simp
theorem fsB_len (g : UInt64) : (fsB [(8, g)]).length = 8 := by
  have := congrArg List.length (fsB_one g [])
  simpa [gnB_length] using this
theorem tlP_pad (g : UInt64) {c : List UInt8} (hc : c.length = 240) : padN 256 (sealB (fsB [(8, g)] ++ c)) 252 = tlP g c := by
  have hl : (sealB (gnB g ++ c)).length = 252 := by rw [sealB_length, List.length_append, gnB_length, hc]
  rw [fsB_one]
  have := padN_all 256 (sealB (gnB g ++ c))
  rw [hl] at this
  rw [this]
  rfl
theorem sl_len (g : UInt64) {c : List UInt8} (hc : c.length = 240) : (sealB (fsB [(8, g)] ++ c)).length = 252 := by rw [fsB_one, sealB_length, List.length_append, gnB_length, hc]
theorem bd_at {q : List UInt8} (hq : q.length = 256) {j : Nat} (hj : j < 240) : (q.map bv).getD (8 + j) 0 = bv ((bdB q)[j]'(by rw [bdB_len hq]; exact hj)) := by
  rw [bv_getD]
  congr 1
  unfold bdB
  rw [List.getElem_take, List.getElem_drop, List.getD_eq_getElem?_getD, List.getElem?_eq_getElem (by omega)]
  rfl

set_option maxRecDepth 10000 in
set_option maxHeartbeats 2000000 in
theorem rpage_any (HS : St w0 F W L) (g : UInt64) (c : List UInt8) (hc : c.length = 240) : Calls Try.prog 17 #[.int .u64 (uv g), .agg ((nums .u8 (c.map bv))).toArray] W fun e w' => e = .returned (.agg (nums .u8 (tlP g c)).toArray) ∧ St w0 F w' L := by
  refine c_enter Try.func17 rfl 29 rfl [.int .u64 (uv g), .agg ((nums .u8 (c.map bv))).toArray, undef, undef, undef, undef, undef, undef, undef, undef, undef, undef, undef, undef, undef, undef, undef, undef, undef, undef, undef, undef, undef, undef, undef, undef, undef, undef, undef] rfl ?_
  refine wp_seq_k (fun K1 hK2 => ?_)
  refine c_region (fun ops4 hops3 => ?_)
  clear hops3
  refine St.wBox HS (cs := ((nums .u8 (c.map bv)))) (.agg ((nums .u8 (c.map bv))).toArray) rfl rfl ?_
  clear HS
  intro g5 w6 hg7 HS
  refine St.wAlloc HS (cs := ((nums .u8 zpg))) (.agg ((nums .u8 zpg)).toArray) (by kernel_rfl) rfl ?_
  clear HS
  intro g8 w9 hg10 HS
  refine wpList_nil ?_
  refine fr_at (l' := [.int .u64 (uv g), .agg ((nums .u8 (c.map bv))).toArray, undef, .pointer (some ⟨g5, 0, none⟩), .pointer (some ⟨g8, 0, none⟩), undef, undef, undef, undef, undef, undef, undef, undef, undef, undef, undef, undef, undef, undef, undef, undef, undef, undef, undef, undef, undef, undef, undef, undef]) rfl ?_
  refine hK2 _ _ ?_
  refine wp_seq_k (fun K11 hK12 => ?_)
  skip
  · skip
    refine free_frame (n := 8) (T := _) [0, 1, 3, 7, 0, 31, 63, 127] [(0, 9), (1, 10), (2, 11), (3, 12), (4, 13), (5, 14), (6, 15), (7, 5)] (fun bq_ vq_ w_ => qv ((fun i_ => match i_ with | 0 => some (.int .u64 (uv g)) | 1 => some (.agg ([.int .u64 8, .int .u64 (uv g)] : List Value).toArray) | 4 => some (.slice (some ⟨g5, 0, none⟩) 240 240) | _ => none) : Nat → Option Value) bq_ vq_ ∧ cond (bq_ 7) (∃ (g15 : Nat) (v18 : Value) (v20 : Value) (oa22 : Option Addr) (nc23 : Nat), vq_ 2 = .slice (some ⟨g15, 0, none⟩) 1 1 ∧ vq_ 3 = v18 ∧ vq_ 5 = v20 ∧ vq_ 6 = .slice oa22 252 nc23 ∧ vq_ 7 = .slice oa22 252 nc23 ∧ St w0 F w_ (row kByte rfl 5 (.slice oa22 252 nc23) (sealB ((fsB [(8, g)]) ++ c)) :: row kByte rfl 5 v20 ((fsB [(8, g)]) ++ c) :: blk g15 [.int .u64 8, .int .u64 (uv g)] 34 :: blk g8 ((nums .u8 zpg)) 27 :: blk g5 ((nums .u8 (c.map bv))) 23 :: L)) (cond (bq_ 6) (∃ (g15 : Nat) (v18 : Value) (v20 : Value) (oa22 : Option Addr) (nc23 : Nat), vq_ 2 = .slice (some ⟨g15, 0, none⟩) 1 1 ∧ vq_ 3 = v18 ∧ vq_ 5 = v20 ∧ vq_ 6 = .slice oa22 252 nc23 ∧ St w0 F w_ (row kByte rfl 5 (.slice oa22 252 nc23) (sealB ((fsB [(8, g)]) ++ c)) :: row kByte rfl 5 v20 ((fsB [(8, g)]) ++ c) :: blk g15 [.int .u64 8, .int .u64 (uv g)] 34 :: blk g8 ((nums .u8 zpg)) 27 :: blk g5 ((nums .u8 (c.map bv))) 23 :: L)) (cond (bq_ 5) (∃ (g15 : Nat) (v18 : Value) (v20 : Value), vq_ 2 = .slice (some ⟨g15, 0, none⟩) 1 1 ∧ vq_ 3 = v18 ∧ vq_ 5 = v20 ∧ St w0 F w_ (row kByte rfl 5 v20 ((fsB [(8, g)]) ++ c) :: blk g15 [.int .u64 8, .int .u64 (uv g)] 34 :: blk g8 ((nums .u8 zpg)) 27 :: blk g5 ((nums .u8 (c.map bv))) 23 :: L)) (cond (bq_ 3) (∃ (g15 : Nat) (v18 : Value), vq_ 2 = .slice (some ⟨g15, 0, none⟩) 1 1 ∧ vq_ 3 = v18 ∧ St w0 F w_ (row kByte rfl 5 v18 (fsB [(8, g)]) :: blk g15 [.int .u64 8, .int .u64 (uv g)] 34 :: blk g8 ((nums .u8 zpg)) 27 :: blk g5 ((nums .u8 (c.map bv))) 23 :: L)) (cond (bq_ 2) (∃ (g15 : Nat), vq_ 2 = .slice (some ⟨g15, 0, none⟩) 1 1 ∧ St w0 F w_ (blk g15 [.int .u64 8, .int .u64 (uv g)] 34 :: blk g8 ((nums .u8 zpg)) 27 :: blk g5 ((nums .u8 (c.map bv))) 23 :: L)) ((St w0 F w_ (blk g8 ((nums .u8 zpg)) 27 :: blk g5 ((nums .u8 (c.map bv))) 23 :: L)))))))) (by kernel_rfl) rfl rfl (by kernel_rfl) (by kernel_rfl) rfl (by kernel_rfl) (by kernel_rfl) ⟨qv_none, HS.draw⟩ ?_ ?_
    · clear HS
      intro i_ hi_ bq_ vq_ a_ w_ hG hb_ hon hoff hfr hel hval
      obtain ⟨hV, hE⟩ := hG
      have hi_ := List.mem_range.1 hi_
      have hcs : i_ = 0 ∨ i_ = 1 ∨ i_ = 2 ∨ i_ = 3 ∨ i_ = 4 ∨ i_ = 5 ∨ i_ = 6 ∨ i_ = 7 := by omega
      rcases hcs with rfl | rfl | rfl | rfl | rfl | rfl | rfl | rfl
      · have h0 : a_.tmps[0]? = some (.int .u64 (uv g)) := (hel 0 (by decide)).trans rfl
        obtain ⟨l_, rfl⟩ := hfr
        have e0 : evl l_ (.tmp 0) = .int .u64 (uv g) := evl_of h0
        refine ⟨_, rfl, fun K_ hK_ => wp_of_list rfl ?_⟩
        intro ops_
        refine p_run (l' := _) _ (x_move (.int .u64 (uv g)) rfl e0) rfl ?_
        refine wpList_nil ?_
        exact norm_put (hK_ (.int .u64 (uv g)) _ ⟨qv_up hV (fun _ h => Option.some.inj h), hE⟩)
      · have h9 : a_.tmps[9]? = some (.int .u64 (uv g)) := (hval (0, 9) (by decide) (hon 0 (by decide))).trans (congrArg some (hV 0 _ rfl (hon 0 (by decide))))
        obtain ⟨l_, rfl⟩ := hfr
        have e9 : evl l_ (.tmp 9) = .int .u64 (uv g) := evl_of h9
        refine ⟨_, rfl, fun K_ hK_ => wp_of_list rfl ?_⟩
        intro ops_
        refine p_run (l' := _) _ (x_build [.int .u64 8, .int .u64 (uv g)] rfl (by show Try.prog.built 34 (Array.map (fun x : Nat × Operand => (x.1, evl l_ x.2)) #[(0, Operand.const (.int .u64 8)), (1, Operand.tmp 9)]).toList = _; rw [show (Array.map (fun x : Nat × Operand => (x.1, evl l_ x.2)) #[(0, Operand.const (.int .u64 8)), (1, Operand.tmp 9)]).toList = [(0, .int .u64 8), (1, .int .u64 (uv g))] from by simp only [List.map_toArray, List.map_cons, List.map_nil, e9] <;> rfl]; kernel_rfl)) rfl ?_
        refine wpList_nil ?_
        exact norm_put (hK_ (.agg ([.int .u64 8, .int .u64 (uv g)] : List Value).toArray) _ ⟨qv_up hV (fun _ h => Option.some.inj h), hE⟩)
      · have h10 : a_.tmps[10]? = some (.agg ([.int .u64 8, .int .u64 (uv g)] : List Value).toArray) := (hval (1, 10) (by decide) (hon 1 (by decide))).trans (congrArg some (hV 1 _ rfl (hon 1 (by decide))))
        obtain ⟨l_, rfl⟩ := hfr
        have hE0 := hE
        rw [show bq_ 7 = false from (hoff 7 (by decide))] at hE0
        rw [show bq_ 6 = false from (hoff 6 (by decide))] at hE0
        rw [show bq_ 5 = false from (hoff 5 (by decide))] at hE0
        rw [show bq_ 3 = false from (hoff 3 (by decide))] at hE0
        rw [show bq_ 2 = false from hb_] at hE0
        simp only [cond_true, cond_false] at hE0
        have HS := hE0
        have e10 : evl l_ (.tmp 10) = .agg ([.int .u64 8, .int .u64 (uv g)] : List Value).toArray := evl_of h10
        refine ⟨_, rfl, fun K_ hK_ => wp_of_list rfl ?_⟩
        intro ops_
        refine St.wLit1 HS [.int .u64 8, .int .u64 (uv g)] 2 (.agg [.int .u64 0, .int .u64 0].toArray) (.agg ([.int .u64 8, .int .u64 (uv g)] : List Value).toArray) Try.underlying98 (by kernel_rfl) (by decide) e10 rfl rfl ?_
        clear HS
        intro g9201 w9202 hg9203 HS
        refine wpList_nil ?_
        refine norm_put (hK_ (.slice (some ⟨g9201, 0, none⟩) 1 1) _ ⟨qv_up hV (by intro _ h; cases h), ?_⟩)
        show cond (bq_ 7) _ _
        rw [show bq_ 7 = false from hoff 7 (by decide), cond_false]
        show cond (bq_ 6) _ _
        rw [show bq_ 6 = false from hoff 6 (by decide), cond_false]
        show cond (bq_ 5) _ _
        rw [show bq_ 5 = false from hoff 5 (by decide), cond_false]
        show cond (bq_ 3) _ _
        rw [show bq_ 3 = false from hoff 3 (by decide), cond_false]
        show cond true _ _
        rw [cond_true]
        exact ⟨g9201, rfl, (((HS.front 2 rfl).front 2 rfl).front 2 rfl)⟩
      · have h11 := hval (2, 11) (by decide) (hon 2 (by decide))
        obtain ⟨l_, rfl⟩ := hfr
        have hE0 := hE
        rw [show bq_ 7 = false from (hoff 7 (by decide))] at hE0
        rw [show bq_ 6 = false from (hoff 6 (by decide))] at hE0
        rw [show bq_ 5 = false from (hoff 5 (by decide))] at hE0
        rw [show bq_ 3 = false from hb_] at hE0
        rw [show bq_ 2 = true from (hon 2 (by decide))] at hE0
        simp only [cond_true, cond_false] at hE0
        obtain ⟨g15, hv2, HS⟩ := hE0
        rw [hv2] at h11
        have e11 : evl l_ (.tmp 11) = .slice (some ⟨g15, 0, none⟩) 1 1 := evl_of h11
        refine ⟨_, rfl, fun K_ hK_ => wp_of_list rfl ?_⟩
        intro ops_
        refine w_call [.slice (some ⟨g15, 0, none⟩) 1 1] Try.func34 (by kernel_rfl) (by rfl) (by simp [e11]) ?_
        refine (fields_any (q := g15) (t := 34) (fs := [(8, g)]) HS (by intro f hf; rcases List.mem_singleton.1 hf with rfl; exact Nat.le_refl 8) (by simp)).mono ?_
        clear HS
        rintro e w9302 ⟨v9301, rfl, HS⟩
        refine ⟨_, rfl, ?_⟩
        refine wpList_nil ?_
        refine norm_put (hK_ (v9301) _ ⟨qv_up hV (by intro _ h; cases h), ?_⟩)
        show cond (bq_ 7) _ _
        rw [show bq_ 7 = false from hoff 7 (by decide), cond_false]
        show cond (bq_ 6) _ _
        rw [show bq_ 6 = false from hoff 6 (by decide), cond_false]
        show cond (bq_ 5) _ _
        rw [show bq_ 5 = false from hoff 5 (by decide), cond_false]
        show cond true _ _
        rw [cond_true]
        exact ⟨g15, v9301, hv2, rfl, ((((HS.front 3 rfl).front 3 rfl).front 3 rfl).front 3 rfl)⟩
      · have h3 : a_.tmps[3]? = some (.pointer (some ⟨g5, 0, none⟩)) := (hel 3 (by decide)).trans rfl
        obtain ⟨l_, rfl⟩ := hfr
        have e3 : evl l_ (.tmp 3) = .pointer (some ⟨g5, 0, none⟩) := evl_of h3
        refine ⟨_, rfl, fun K_ hK_ => wp_of_list rfl ?_⟩
        intro ops_
        refine p_run (l' := _) (.slice (some ⟨g5, 0, none⟩) 240 240) ((x_sliceArr (sz := 1) (L := none) (H := none) (lo := 0) (hi := 240) ⟨g5, 0, none⟩ rfl e3 Try.underlying23 (by kernel_rfl) rfl rfl (by omega) (by omega) (by first | rfl | (rw [if_neg (by omega), add_mk]; rfl))).trans rfl) rfl ?_
        refine wpList_nil ?_
        exact norm_put (hK_ (.slice (some ⟨g5, 0, none⟩) 240 240) _ ⟨qv_up hV (fun _ h => Option.some.inj h), hE⟩)
      · have h12 := hval (3, 12) (by decide) (hon 3 (by decide))
        have h13 : a_.tmps[13]? = some (.slice (some ⟨g5, 0, none⟩) 240 240) := (hval (4, 13) (by decide) (hon 4 (by decide))).trans (congrArg some (hV 4 _ rfl (hon 4 (by decide))))
        obtain ⟨l_, rfl⟩ := hfr
        have hE0 := hE
        rw [show bq_ 7 = false from (hoff 7 (by decide))] at hE0
        rw [show bq_ 6 = false from (hoff 6 (by decide))] at hE0
        rw [show bq_ 5 = false from hb_] at hE0
        rw [show bq_ 3 = true from (hon 3 (by decide))] at hE0
        simp only [cond_true, cond_false] at hE0
        obtain ⟨g15, v18, hv2, hv3, HS⟩ := hE0
        rw [hv3] at h12
        have e12 : evl l_ (.tmp 12) = v18 := evl_of h12
        have e13 : evl l_ (.tmp 13) = .slice (some ⟨g5, 0, none⟩) 240 240 := evl_of h13
        refine ⟨_, rfl, fun K_ hK_ => wp_of_list rfl ?_⟩
        intro ops_
        refine St.wAppend HS (.int .u8 0) 1 Try.underlying65 (by kernel_rfl) rfl (by decide) (by decide) c _ _ _ e12 e13 (rd_blkn (HS.get (.tail _ (.tail _ (.tail _ (.head _))))) hc (by omega)) (fun _ _ h => h) (by rw [fsB_len]; omega) ?_
        clear HS
        intro v9501 w9502 HS
        refine wpList_nil ?_
        refine norm_put (hK_ (v9501) _ ⟨qv_up hV (by intro _ h; cases h), ?_⟩)
        show cond (bq_ 7) _ _
        rw [show bq_ 7 = false from hoff 7 (by decide), cond_false]
        show cond (bq_ 6) _ _
        rw [show bq_ 6 = false from hoff 6 (by decide), cond_false]
        show cond true _ _
        rw [cond_true]
        exact ⟨g15, v18, v9501, hv2, hv3, rfl, ((((HS.front 3 rfl).front 3 rfl).front 3 rfl).front 3 rfl)⟩
      · have h14 := hval (5, 14) (by decide) (hon 5 (by decide))
        obtain ⟨l_, rfl⟩ := hfr
        have hE0 := hE
        rw [show bq_ 7 = false from (hoff 7 (by decide))] at hE0
        rw [show bq_ 6 = false from hb_] at hE0
        rw [show bq_ 5 = true from (hon 5 (by decide))] at hE0
        simp only [cond_true, cond_false] at hE0
        obtain ⟨g15, v18, v20, hv2, hv3, hv5, HS⟩ := hE0
        rw [hv5] at h14
        have e14 : evl l_ (.tmp 14) = v20 := evl_of h14
        refine ⟨_, rfl, fun K_ hK_ => wp_of_list rfl ?_⟩
        intro ops_
        refine w_call [v20] Try.func33 (by kernel_rfl) (by rfl) (by simp [e14]) ?_
        refine (rsealR_any HS 252 (sl_len g hc) (by omega)).mono ?_
        clear HS
        rintro e w9603 ⟨oa9601, nc9602, rfl, HS⟩
        refine ⟨_, rfl, ?_⟩
        refine wpList_nil ?_
        refine norm_put (hK_ (.slice oa9601 252 nc9602) _ ⟨qv_up hV (by intro _ h; cases h), ?_⟩)
        show cond (bq_ 7) _ _
        rw [show bq_ 7 = false from hoff 7 (by decide), cond_false]
        show cond true _ _
        rw [cond_true]
        exact ⟨g15, v18, v20, oa9601, nc9602, hv2, hv3, hv5, rfl, (((((HS.front 4 rfl).front 4 rfl).front 4 rfl).front 4 rfl).front 4 rfl)⟩
      · have h15 := hval (6, 15) (by decide) (hon 6 (by decide))
        obtain ⟨l_, rfl⟩ := hfr
        have hE0 := hE
        rw [show bq_ 7 = false from hb_] at hE0
        rw [show bq_ 6 = true from (hon 6 (by decide))] at hE0
        simp only [cond_true, cond_false] at hE0
        obtain ⟨g15, v18, v20, oa22, nc23, hv2, hv3, hv5, hv6, HS⟩ := hE0
        rw [hv6] at h15
        have e15 : evl l_ (.tmp 15) = .slice oa22 252 nc23 := evl_of h15
        refine ⟨_, rfl, fun K_ hK_ => wp_of_list rfl ?_⟩
        intro ops_
        refine p_run (l' := _) _ (x_assign (.slice oa22 252 nc23) rfl e15) rfl ?_
        refine wpList_nil ?_
        refine norm_put (hK_ (.slice oa22 252 nc23) _ ⟨qv_up hV (by intro _ h; cases h), ?_⟩)
        show cond true _ _
        rw [cond_true]
        exact ⟨g15, v18, v20, oa22, nc23, hv2, hv3, hv5, hv6, rfl, (((((HS.front 4 rfl).front 4 rfl).front 4 rfl).front 4 rfl).front 4 rfl)⟩
    intro bq_ vq_ w_ hall hG
    obtain ⟨hV, hE⟩ := hG
    clear HS
    rw [show bq_ 7 = true from hall 7 (by decide)] at hE
    simp only [cond_true] at hE
    obtain ⟨g15, v18, v20, oa22, nc23, hv2, hv3, hv5, hv6, hv7, HS⟩ := hE
    have hv0 := hV 0 _ rfl (hall 0 (by decide))
    have hv1 := hV 1 _ rfl (hall 1 (by decide))
    have hv4 := hV 4 _ rfl (hall 4 (by decide))
    clear hV hall
    rw [putSel_fr]
    simp only [tells, List.map_cons, List.map_nil, setAll, List.set_cons_succ, List.set_cons_zero, hv0, hv1, hv2, hv3, hv4, hv5, hv6, hv7]
    clear hv0 hv1 hv2 hv3 hv4 hv5 hv6 hv7
    generalize w_ = w9701 at HS ⊢
    refine fr_at (l' := [.int .u64 (uv g), .agg ((nums .u8 (c.map bv))).toArray, undef, .pointer (some ⟨g5, 0, none⟩), .pointer (some ⟨g8, 0, none⟩), .slice oa22 252 nc23, undef, undef, undef, .int .u64 (uv g), .agg ([.int .u64 8, .int .u64 (uv g)] : List Value).toArray, .slice (some ⟨g15, 0, none⟩) 1 1, v18, .slice (some ⟨g5, 0, none⟩) 240 240, v20, .slice oa22 252 nc23, undef, undef, undef, undef, undef, undef, undef, undef, undef, undef, undef, undef, undef]) rfl ?_
    refine hK12 _ _ ?_
    refine wp_seq_k (fun K9702 hK9703 => ?_)
    refine c_region (fun ops9705 hops9704 => ?_)
    clear hops9704
    refine p_run (l' := _) _ (x_build ((nums .u8 zpg)) rfl (by kernel_rfl)) rfl ?_
    refine St.wAlloc HS (cs := ((nums .u8 zpg))) (.agg ((nums .u8 zpg)).toArray) (by kernel_rfl) rfl ?_
    clear HS
    intro g9706 w9707 hg9708 HS
    refine St.stores (cs' := ((nums .u8 zpg))) HS ((nums .u8 zpg)) 256 rfl rfl (nums_one _ _) (by kernel_rfl) (by simp [nums_length, zlen]) (by simp [nums_length, zlen]) (lay_all _ _ (by simp [nums_length, zlen])) ?_
    clear HS
    intro w9709 HS
    refine wpList_nil ?_
    refine fr_at (l' := [.int .u64 (uv g), .agg ((nums .u8 (c.map bv))).toArray, undef, .pointer (some ⟨g5, 0, none⟩), .pointer (some ⟨g8, 0, none⟩), .slice oa22 252 nc23, .pointer (some ⟨g9706, 0, none⟩), undef, undef, .int .u64 (uv g), .agg ([.int .u64 8, .int .u64 (uv g)] : List Value).toArray, .slice (some ⟨g15, 0, none⟩) 1 1, v18, .slice (some ⟨g5, 0, none⟩) 240 240, v20, .slice oa22 252 nc23, .agg ((nums .u8 zpg)).toArray, undef, undef, undef, undef, undef, undef, undef, undef, undef, undef, undef, undef]) rfl ?_
    refine hK9703 _ _ ?_
    refine wp_seq_k (fun K9710 hK9711 => ?_)
    refine wp_seq_k (fun K9712 hK9713 => ?_)
    refine c_region (fun ops9715 hops9714 => ?_)
    clear hops9714
    refine p_run (l' := _) _ (x_move (.slice oa22 252 nc23) rfl rfl) rfl ?_
    refine p_run (l' := _) _ (x_len rfl rfl Try.underlying65) rfl ?_
    refine p_run (l' := _) _ (x_move (.int .i64 0) rfl rfl) rfl ?_
    refine wpList_nil ?_
    refine fr_at (l' := [.int .u64 (uv g), .agg ((nums .u8 (c.map bv))).toArray, undef, .pointer (some ⟨g5, 0, none⟩), .pointer (some ⟨g8, 0, none⟩), .slice oa22 252 nc23, .pointer (some ⟨g9706, 0, none⟩), undef, undef, .int .u64 (uv g), .agg ([.int .u64 8, .int .u64 (uv g)] : List Value).toArray, .slice (some ⟨g15, 0, none⟩) 1 1, v18, .slice (some ⟨g5, 0, none⟩) 240 240, v20, .slice oa22 252 nc23, .agg ((nums .u8 zpg)).toArray, .slice oa22 252 nc23, .int .i64 252, .int .i64 0, undef, undef, undef, undef, undef, undef, undef, undef, undef]) rfl ?_
    refine hK9713 _ _ ?_
    refine wp_block ?_
    obtain ⟨ad, hA⟩ := rd_some (row_rd (HS.get (.tail _ (.head _)))).2.2 (by rw [sl_len g hc]; omega)
    subst hA
    refine c_loop (ι := Nat) (fun i_ a_ w_ => match i_ with | j => ∃ (u7 : Value) (u8 : Value) (u20 : Value) (u21 : Value) (u22 : Value) (u23 : Value) (u24 : Value) (u25 : Value) (u26 : Value) (u27 : Value), a_ = fr [.int .u64 (uv g), .agg ((nums .u8 (c.map bv))).toArray, undef, .pointer (some ⟨g5, 0, none⟩), .pointer (some ⟨g8, 0, none⟩), .slice (some ad) 252 nc23, .pointer (some ⟨g9706, 0, none⟩), u7, u8, .int .u64 (uv g), .agg ([.int .u64 8, .int .u64 (uv g)] : List Value).toArray, .slice (some ⟨g15, 0, none⟩) 1 1, v18, .slice (some ⟨g5, 0, none⟩) 240 240, v20, .slice (some ad) 252 nc23, .agg ((nums .u8 zpg)).toArray, .slice (some ad) 252 nc23, .int .i64 252, .int .i64 (j : Int), u20, u21, u22, u23, u24, u25, u26, u27, undef] ∧ St w0 F w_ (blk g9706 ((nums .u8 (padN 256 (sealB (fsB [(8, g)] ++ c)) j))) 27 :: row kByte rfl 5 (.slice (some ad) 252 nc23) (sealB ((fsB [(8, g)]) ++ c)) :: row kByte rfl 5 v20 ((fsB [(8, g)]) ++ c) :: blk g15 [.int .u64 8, .int .u64 (uv g)] 34 :: blk g8 ((nums .u8 zpg)) 27 :: blk g5 ((nums .u8 (c.map bv))) 23 :: L) ∧ (j ≤ 252)) (fun i_ => match i_ with | j => 252 - j) 0 ?_ ?_
    · exact ⟨_, _, _, _, _, _, _, _, _, _, rfl, (by rw [padN_zero]; exact ((((((HS.front 5 rfl).front 5 rfl).front 5 rfl).front 5 rfl).front 5 rfl).front 5 rfl)), (by omega)⟩
    · clear HS
      rintro j a_ w9718 ⟨u7, u8, u20, u21, u22, u23, u24, u25, u26, u27, rfl, HS, hI⟩ J9716 hJ9717
      have hj := hI
      refine wp_seq_k (fun K9719 hK9720 => ?_)
      refine c_region (fun ops9722 hops9721 => ?_)
      clear hops9721
      refine p_run (l' := _) _ (x_cmp (k := .i64) (m := (j : Int)) (n := 252) .lss (decide ((j : Int) < 252)) rfl rfl rfl rfl rfl) rfl ?_
      refine wpList_nil ?_
      refine fr_at (l' := [.int .u64 (uv g), .agg ((nums .u8 (c.map bv))).toArray, undef, .pointer (some ⟨g5, 0, none⟩), .pointer (some ⟨g8, 0, none⟩), .slice (some ad) 252 nc23, .pointer (some ⟨g9706, 0, none⟩), u7, u8, .int .u64 (uv g), .agg ([.int .u64 8, .int .u64 (uv g)] : List Value).toArray, .slice (some ⟨g15, 0, none⟩) 1 1, v18, .slice (some ⟨g5, 0, none⟩) 240 240, v20, .slice (some ad) 252 nc23, .agg ((nums .u8 zpg)).toArray, .slice (some ad) 252 nc23, .int .i64 252, .int .i64 (j : Int), .bool (decide ((j : Int) < 252)), u21, u22, u23, u24, u25, u26, u27, undef]) rfl ?_
      refine hK9720 _ _ ?_
      refine wp_seq_k (fun K9723 hK9724 => ?_)
      refine c_cond (t := decide ((j : Int) < 252)) rfl (fun hc9725 => ?_) (fun hc9725 => ?_)
      · have hlt : j < 252 := by have := of_decide_eq_true hc9725; omega
        have hjl : j < (sealB (fsB [(8, g)] ++ c)).length := by rw [sl_len g hc]; exact hlt
        refine wp_skip ?_
        refine hK9724 _ _ ?_
        refine wp_seq_k (fun K9726 hK9727 => ?_)
        refine wp_block ?_
        refine wp_seq_k (fun K9728 hK9729 => ?_)
        refine c_region (fun ops9731 hops9730 => ?_)
        clear hops9730
        refine p_run (l' := _) _ (x_move (.int .i64 (j : Int)) rfl rfl) rfl ?_
        refine p_run (l' := _) _ (x_index (A := ad) (j := j * 1) rfl rfl rfl Try.underlying65 (by kernel_rfl) (by omega) rfl) rfl ?_
        refine p_run (l' := _) _ (x_load (.int .u8 (bv (sealB (fsB [(8, g)] ++ c))[j])) rfl rfl (rd_cell (row_rd (HS.get (.tail _ (.head _)))).2.2 j hjl) (by rfl)) rfl ?_
        refine p_run (l' := [.int .u64 (uv g), .agg ((nums .u8 (c.map bv))).toArray, undef, .pointer (some ⟨g5, 0, none⟩), .pointer (some ⟨g8, 0, none⟩), .slice (some ad) 252 nc23, .pointer (some ⟨g9706, 0, none⟩), .int .i64 (j : Int), u8, .int .u64 (uv g), .agg ([.int .u64 8, .int .u64 (uv g)] : List Value).toArray, .slice (some ⟨g15, 0, none⟩) 1 1, v18, .slice (some ⟨g5, 0, none⟩) 240 240, v20, .slice (some ad) 252 nc23, .agg ((nums .u8 zpg)).toArray, .slice (some ad) 252 nc23, .int .i64 252, .int .i64 (j : Int), .bool (decide ((j : Int) < 252)), .int .i64 (j : Int), .pointer (some ((ad).add (j * 1))), .int .u8 (bv (sealB (fsB [(8, g)] ++ c))[j]), u24, u25, u26, u27, undef]) _ (x_assign (.int .i64 (j : Int)) rfl rfl) rfl ?_
        refine p_run (l' := _) _ (x_assign (.int .u8 (bv (sealB (fsB [(8, g)] ++ c))[j])) rfl rfl) rfl ?_
        refine wpList_nil ?_
        refine fr_at (l' := [.int .u64 (uv g), .agg ((nums .u8 (c.map bv))).toArray, undef, .pointer (some ⟨g5, 0, none⟩), .pointer (some ⟨g8, 0, none⟩), .slice (some ad) 252 nc23, .pointer (some ⟨g9706, 0, none⟩), .int .i64 (j : Int), .int .u8 (bv (sealB (fsB [(8, g)] ++ c))[j]), .int .u64 (uv g), .agg ([.int .u64 8, .int .u64 (uv g)] : List Value).toArray, .slice (some ⟨g15, 0, none⟩) 1 1, v18, .slice (some ⟨g5, 0, none⟩) 240 240, v20, .slice (some ad) 252 nc23, .agg ((nums .u8 zpg)).toArray, .slice (some ad) 252 nc23, .int .i64 252, .int .i64 (j : Int), .bool (decide ((j : Int) < 252)), .int .i64 (j : Int), .pointer (some ((ad).add (j * 1))), .int .u8 (bv (sealB (fsB [(8, g)] ++ c))[j]), u24, u25, u26, u27, undef]) rfl ?_
        refine hK9729 _ _ ?_
        refine c_region (fun ops9733 hops9732 => ?_)
        clear hops9732
        refine p_run (l' := _) _ (x_move (.int .i64 (j : Int)) rfl rfl) rfl ?_
        refine p_run (l' := _) _ (x_move (.int .u8 (bv (sealB (fsB [(8, g)] ++ c))[j])) rfl rfl) rfl ?_
        refine p_run (l' := _) _ (x_indexArr (sz := 1) (j := j) rfl rfl rfl Try.underlying27 (by kernel_rfl) (by omega) (by first | rfl | (simp; done) | (simp <;> omega) | omega)) rfl ?_
        refine St.store (cs' := (nums .u8 ((padN 256 (sealB (fsB [(8, g)] ++ c)) j).set j (bv (sealB (fsB [(8, g)] ++ c))[j])))) HS (.int .u8 (bv (sealB (fsB [(8, g)] ++ c))[j])) rfl rfl rfl (by kernel_rfl) (decide_eq_true (by simp only [nums_length, padN_len (show j ≤ (sealB (fsB [(8, g)] ++ c)).length by rw [sl_len g hc]; exact hj) (show j ≤ 256 by omega)]; omega)) (nums_set _ _ _ _) ?_
        clear HS
        intro w9734 HS
        refine wpList_nil ?_
        refine fr_at (l' := [.int .u64 (uv g), .agg ((nums .u8 (c.map bv))).toArray, undef, .pointer (some ⟨g5, 0, none⟩), .pointer (some ⟨g8, 0, none⟩), .slice (some ad) 252 nc23, .pointer (some ⟨g9706, 0, none⟩), .int .i64 (j : Int), .int .u8 (bv (sealB (fsB [(8, g)] ++ c))[j]), .int .u64 (uv g), .agg ([.int .u64 8, .int .u64 (uv g)] : List Value).toArray, .slice (some ⟨g15, 0, none⟩) 1 1, v18, .slice (some ⟨g5, 0, none⟩) 240 240, v20, .slice (some ad) 252 nc23, .agg ((nums .u8 zpg)).toArray, .slice (some ad) 252 nc23, .int .i64 252, .int .i64 (j : Int), .bool (decide ((j : Int) < 252)), .int .i64 (j : Int), .pointer (some ((ad).add (j * 1))), .int .u8 (bv (sealB (fsB [(8, g)] ++ c))[j]), .int .i64 (j : Int), .int .u8 (bv (sealB (fsB [(8, g)] ++ c))[j]), .pointer (some ⟨g9706, j, none⟩), u27, undef]) rfl ?_
        refine hK9727 _ _ ?_
        refine c_region (fun ops9736 hops9735 => ?_)
        clear hops9735
        refine p_run (l' := _) _ (x_arith (k := .i64) (m := (j : Int)) (n := 1) .add (((j + 1 : Nat) : Int)) rfl rfl rfl (show IntKind.i64.wrap ((j : Int) + 1) = ((j + 1 : Nat) : Int) from ((wr64' (by omega)).trans (by omega))) rfl) rfl ?_
        refine p_run (l' := _) _ (x_move (.int .i64 ((j + 1 : Nat) : Int)) rfl rfl) rfl ?_
        refine wpList_nil ?_
        refine fr_at (l' := [.int .u64 (uv g), .agg ((nums .u8 (c.map bv))).toArray, undef, .pointer (some ⟨g5, 0, none⟩), .pointer (some ⟨g8, 0, none⟩), .slice (some ad) 252 nc23, .pointer (some ⟨g9706, 0, none⟩), .int .i64 (j : Int), .int .u8 (bv (sealB (fsB [(8, g)] ++ c))[j]), .int .u64 (uv g), .agg ([.int .u64 8, .int .u64 (uv g)] : List Value).toArray, .slice (some ⟨g15, 0, none⟩) 1 1, v18, .slice (some ⟨g5, 0, none⟩) 240 240, v20, .slice (some ad) 252 nc23, .agg ((nums .u8 zpg)).toArray, .slice (some ad) 252 nc23, .int .i64 252, .int .i64 ((j + 1 : Nat) : Int), .bool (decide ((j : Int) < 252)), .int .i64 (j : Int), .pointer (some ((ad).add (j * 1))), .int .u8 (bv (sealB (fsB [(8, g)] ++ c))[j]), .int .i64 (j : Int), .int .u8 (bv (sealB (fsB [(8, g)] ++ c))[j]), .pointer (some ⟨g9706, j, none⟩), .int .i64 ((j + 1 : Nat) : Int), undef]) rfl ?_
        rw [padN_set hjl (by omega)] at HS
        refine hJ9717 (j + 1) _ _ ?_ ?_
        · show 252 - (j + 1) < 252 - j; omega
        · exact ⟨_, _, _, _, _, _, _, _, _, _, rfl, ((((((HS.front 5 rfl).front 5 rfl).front 5 rfl).front 5 rfl).front 5 rfl).front 5 rfl), (by omega)⟩
      · have hlt : j = 252 := by have := of_decide_eq_false hc9725; omega
        subst hlt
        rw [tlP_pad g hc] at HS
        refine wp_exit ?_
        refine hK9711 _ _ ?_
        refine wp_seq_k (fun K9737 hK9738 => ?_)
        refine c_region (fun ops9740 hops9739 => ?_)
        clear hops9739
        refine p_run (l' := _) _ (x_loads ((nums .u8 (tlP g c))) 256 rfl rfl (bkCells (HS.get (.head _)) 0 _ (whole _)) (by rfl) (by kernel_rfl) (by simp [nums_length, tlP_len g hc])) rfl ?_
        refine St.stores (cs' := ((nums .u8 (tlP g c)))) (HS.front 4 rfl) ((nums .u8 (tlP g c))) 256 rfl rfl (nums_one _ _) (by kernel_rfl) (by simp [nums_length, tlP_len g hc]) (by simp [nums_length, tlP_len g hc, zlen]) (lay_all _ _ (by simp [nums_length, tlP_len g hc, zlen])) ?_
        clear HS
        intro w9741 HS
        refine wpList_nil ?_
        refine fr_at (l' := [.int .u64 (uv g), .agg ((nums .u8 (c.map bv))).toArray, undef, .pointer (some ⟨g5, 0, none⟩), .pointer (some ⟨g8, 0, none⟩), .slice (some ad) 252 nc23, .pointer (some ⟨g9706, 0, none⟩), u7, u8, .int .u64 (uv g), .agg ([.int .u64 8, .int .u64 (uv g)] : List Value).toArray, .slice (some ⟨g15, 0, none⟩) 1 1, v18, .slice (some ⟨g5, 0, none⟩) 240 240, v20, .slice (some ad) 252 nc23, .agg ((nums .u8 zpg)).toArray, .slice (some ad) 252 nc23, .int .i64 252, .int .i64 (252 : Int), .bool (decide ((252 : Int) < 252)), u21, u22, u23, u24, u25, u26, u27, .agg ((nums .u8 (tlP g c))).toArray]) rfl ?_
        refine hK9738 _ _ ?_
        refine wp_ret ?_
        try simp only [Exit.inBlock, Exit.then]
        refine c_ret (.agg ((nums .u8 (tlP g c))).toArray) (r_c rfl rfl (run_loadVar_aggn (by rfl) ((nums .u8 (tlP g c))) 256 (by kernel_rfl) (by simp [nums_length, tlP_len g hc]) (bkCells (HS.get (.head _)) 0 _ (whole _)))) ?_
        exact ⟨rfl, HS.drop.drop.drop.drop.drop.drop⟩

set_option maxRecDepth 10000 in
set_option maxHeartbeats 2000000 in
theorem ropen_any (HS : St w0 F W L) (g : UInt64) (q : List UInt8) (hq : q.length = 256) : Calls Try.prog 16 #[.agg ((nums .u8 (q.map bv))).toArray, .int .u64 (uv g)] W fun e w' => e = .returned (.tuple #[.agg (nums .u8 ((tlC g q).map bv)).toArray, .int .i64 (tlE g q)]) ∧ St w0 F w' L := by
  rcases h : tlOk g q with _ | _
  · skip
    refine c_enter Try.func16 rfl 26 rfl [.agg ((nums .u8 (q.map bv))).toArray, .int .u64 (uv g), undef, undef, undef, undef, undef, undef, undef, undef, undef, undef, undef, undef, undef, undef, undef, undef, undef, undef, undef, undef, undef, undef, undef, undef] rfl ?_
    refine wp_seq_k (fun K1 hK2 => ?_)
    refine c_region (fun ops4 hops3 => ?_)
    clear hops3
    refine St.wBox HS (cs := ((nums .u8 (q.map bv)))) (.agg ((nums .u8 (q.map bv))).toArray) rfl rfl ?_
    clear HS
    intro g5 w6 hg7 HS
    refine St.wAlloc HS (cs := ((nums .u8 zct))) (.agg ((nums .u8 zct)).toArray) (by kernel_rfl) rfl ?_
    clear HS
    intro g8 w9 hg10 HS
    refine p_run (l' := _) _ (x_assign (.int .i64 0) rfl rfl) rfl ?_
    refine wpList_nil ?_
    refine fr_at (l' := [.agg ((nums .u8 (q.map bv))).toArray, .int .u64 (uv g), .pointer (some ⟨g5, 0, none⟩), undef, .pointer (some ⟨g8, 0, none⟩), .int .i64 0, undef, undef, undef, undef, undef, undef, undef, undef, undef, undef, undef, undef, undef, undef, undef, undef, undef, undef, undef, undef]) rfl ?_
    refine hK2 _ _ ?_
    refine wp_seq_k (fun K11 hK12 => ?_)
    refine c_region (fun ops14 hops13 => ?_)
    clear hops13
    refine p_run (l' := _) _ (x_build ((nums .u8 zct)) rfl (by kernel_rfl)) rfl ?_
    refine St.wAlloc HS (cs := ((nums .u8 zct))) (.agg ((nums .u8 zct)).toArray) (by kernel_rfl) rfl ?_
    clear HS
    intro g15 w16 hg17 HS
    refine St.stores (cs' := ((nums .u8 zct))) HS ((nums .u8 zct)) 240 rfl rfl (nums_one _ _) (by kernel_rfl) (by simp [nums_length, zlen240]) (by simp [nums_length, zlen240]) (lay_all _ _ (by simp [nums_length, zlen240])) ?_
    clear HS
    intro w18 HS
    refine wpList_nil ?_
    refine fr_at (l' := [.agg ((nums .u8 (q.map bv))).toArray, .int .u64 (uv g), .pointer (some ⟨g5, 0, none⟩), undef, .pointer (some ⟨g8, 0, none⟩), .int .i64 0, .pointer (some ⟨g15, 0, none⟩), undef, .agg ((nums .u8 zct)).toArray, undef, undef, undef, undef, undef, undef, undef, undef, undef, undef, undef, undef, undef, undef, undef, undef, undef]) rfl ?_
    refine hK12 _ _ ?_
    refine wp_seq_k (fun K19 hK20 => ?_)
    refine wp_seq_k (fun K21 hK22 => ?_)
    refine c_region (fun ops24 hops23 => ?_)
    clear hops23
    refine p_run (l' := _) _ (x_move (.int .i64 0) rfl rfl) rfl ?_
    refine wpList_nil ?_
    refine fr_at (l' := [.agg ((nums .u8 (q.map bv))).toArray, .int .u64 (uv g), .pointer (some ⟨g5, 0, none⟩), undef, .pointer (some ⟨g8, 0, none⟩), .int .i64 0, .pointer (some ⟨g15, 0, none⟩), undef, .agg ((nums .u8 zct)).toArray, .int .i64 0, undef, undef, undef, undef, undef, undef, undef, undef, undef, undef, undef, undef, undef, undef, undef, undef]) rfl ?_
    refine hK22 _ _ ?_
    refine wp_block ?_
    refine c_loop (ι := Nat) (fun i_ a_ w_ => match i_ with | j => ∃ (u7 : Value) (u10 : Value) (u11 : Value) (u12 : Value) (u13 : Value) (u14 : Value) (u15 : Value) (u16 : Value) (u17 : Value) (u18 : Value), a_ = fr [.agg ((nums .u8 (q.map bv))).toArray, .int .u64 (uv g), .pointer (some ⟨g5, 0, none⟩), undef, .pointer (some ⟨g8, 0, none⟩), .int .i64 0, .pointer (some ⟨g15, 0, none⟩), u7, .agg ((nums .u8 zct)).toArray, .int .i64 (j : Int), u10, u11, u12, u13, u14, u15, u16, u17, u18, undef, undef, undef, undef, undef, undef, undef] ∧ St w0 F w_ (blk g15 ((nums .u8 (padN 240 (bdB q) j))) 23 :: blk g8 ((nums .u8 zct)) 23 :: blk g5 ((nums .u8 (q.map bv))) 27 :: L) ∧ (j ≤ 240)) (fun i_ => match i_ with | j => 240 - j) 0 ?_ ?_
    · exact ⟨_, _, _, _, _, _, _, _, _, _, rfl, (by rw [padN_zero]; exact (((HS.front 2 rfl).front 2 rfl).front 2 rfl)), (by omega)⟩
    · clear HS
      rintro j a_ w27 ⟨u7, u10, u11, u12, u13, u14, u15, u16, u17, u18, rfl, HS, hI⟩ J25 hJ26
      have hj := hI
      refine wp_seq_k (fun K28 hK29 => ?_)
      refine c_region (fun ops31 hops30 => ?_)
      clear hops30
      refine p_run (l' := _) _ (x_cmp (k := .i64) (m := (j : Int)) (n := 240) .lss (decide ((j : Int) < 240)) rfl rfl rfl rfl rfl) rfl ?_
      refine wpList_nil ?_
      refine fr_at (l' := [.agg ((nums .u8 (q.map bv))).toArray, .int .u64 (uv g), .pointer (some ⟨g5, 0, none⟩), undef, .pointer (some ⟨g8, 0, none⟩), .int .i64 0, .pointer (some ⟨g15, 0, none⟩), u7, .agg ((nums .u8 zct)).toArray, .int .i64 (j : Int), .bool (decide ((j : Int) < 240)), u11, u12, u13, u14, u15, u16, u17, u18, undef, undef, undef, undef, undef, undef, undef]) rfl ?_
      refine hK29 _ _ ?_
      refine wp_seq_k (fun K32 hK33 => ?_)
      refine c_cond (t := decide ((j : Int) < 240)) rfl (fun hc34 => ?_) (fun hc34 => ?_)
      · have hlt : j < 240 := by have := of_decide_eq_true hc34; omega
        have hjl : j < (bdB q).length := by rw [bdB_len hq]; exact hlt
        refine wp_skip ?_
        refine hK33 _ _ ?_
        refine wp_seq_k (fun K35 hK36 => ?_)
        refine wp_block ?_
        refine wp_seq_k (fun K37 hK38 => ?_)
        refine c_region (fun ops40 hops39 => ?_)
        clear hops39
        refine p_run (l' := _) _ (x_move (.int .i64 (j : Int)) rfl rfl) rfl ?_
        refine p_run (l' := _) _ (x_assign (.int .i64 (j : Int)) rfl rfl) rfl ?_
        refine wpList_nil ?_
        refine fr_at (l' := [.agg ((nums .u8 (q.map bv))).toArray, .int .u64 (uv g), .pointer (some ⟨g5, 0, none⟩), undef, .pointer (some ⟨g8, 0, none⟩), .int .i64 0, .pointer (some ⟨g15, 0, none⟩), .int .i64 (j : Int), .agg ((nums .u8 zct)).toArray, .int .i64 (j : Int), .bool (decide ((j : Int) < 240)), .int .i64 (j : Int), u12, u13, u14, u15, u16, u17, u18, undef, undef, undef, undef, undef, undef, undef]) rfl ?_
        refine hK38 _ _ ?_
        refine c_region (fun ops42 hops41 => ?_)
        clear hops41
        refine p_run (l' := _) _ (x_move (.int .i64 (j : Int)) rfl rfl) rfl ?_
        refine p_run (l' := _) _ (x_move (.int .i64 (j : Int)) rfl rfl) rfl ?_
        refine p_run (l' := _) _ (x_arith (k := .i64) (m := 8) (n := (j : Int)) .add (((8 + j : Nat) : Int)) rfl rfl rfl (show IntKind.i64.wrap (8 + (j : Int)) = ((8 + j : Nat) : Int) from ((wr64' (by omega)).trans (by omega))) rfl) rfl ?_
        refine p_run (l' := [.agg ((nums .u8 (q.map bv))).toArray, .int .u64 (uv g), .pointer (some ⟨g5, 0, none⟩), undef, .pointer (some ⟨g8, 0, none⟩), .int .i64 0, .pointer (some ⟨g15, 0, none⟩), .int .i64 (j : Int), .agg ((nums .u8 zct)).toArray, .int .i64 (j : Int), .bool (decide ((j : Int) < 240)), .int .i64 (j : Int), .int .i64 (j : Int), .int .i64 (j : Int), .int .i64 ((8 + j : Nat) : Int), .pointer (some ⟨g5, (8 + j : Nat), none⟩), u16, u17, u18, undef, undef, undef, undef, undef, undef, undef]) _ (x_indexArr (sz := 1) (j := (8 + j : Nat)) rfl rfl rfl Try.underlying27 (by kernel_rfl) (by omega) (by first | rfl | (simp; done) | (simp <;> omega) | omega)) rfl ?_
        refine p_run (l' := _) _ (x_load (.int .u8 ((q.map bv).getD (8 + j : Nat) 0)) rfl rfl (bkCell (HS.get (.tail _ (.tail _ (.head _)))) (8 + j : Nat) _ (nums_getD (by simp only [List.length_map, hq]; omega))) (by rfl)) rfl ?_
        refine p_run (l' := _) _ (x_indexArr (sz := 1) (j := j) rfl rfl rfl Try.underlying23 (by kernel_rfl) (by omega) (by first | rfl | (simp; done) | (simp <;> omega) | omega)) rfl ?_
        refine St.store (cs' := (nums .u8 ((padN 240 (bdB q) j).set j ((q.map bv).getD (8 + j : Nat) 0)))) HS (.int .u8 ((q.map bv).getD (8 + j : Nat) 0)) rfl rfl rfl (by kernel_rfl) (decide_eq_true (by simp only [nums_length, padN_len (show j ≤ (bdB q).length by rw [bdB_len hq]; exact hj) (show j ≤ 240 by omega)]; omega)) (nums_set _ _ _ _) ?_
        clear HS
        intro w43 HS
        refine wpList_nil ?_
        refine fr_at (l' := [.agg ((nums .u8 (q.map bv))).toArray, .int .u64 (uv g), .pointer (some ⟨g5, 0, none⟩), undef, .pointer (some ⟨g8, 0, none⟩), .int .i64 0, .pointer (some ⟨g15, 0, none⟩), .int .i64 (j : Int), .agg ((nums .u8 zct)).toArray, .int .i64 (j : Int), .bool (decide ((j : Int) < 240)), .int .i64 (j : Int), .int .i64 (j : Int), .int .i64 (j : Int), .int .i64 ((8 + j : Nat) : Int), .pointer (some ⟨g5, (8 + j : Nat), none⟩), .int .u8 ((q.map bv).getD (8 + j : Nat) 0), .pointer (some ⟨g15, j, none⟩), u18, undef, undef, undef, undef, undef, undef, undef]) rfl ?_
        refine hK36 _ _ ?_
        refine c_region (fun ops45 hops44 => ?_)
        clear hops44
        refine p_run (l' := _) _ (x_arith (k := .i64) (m := (j : Int)) (n := 1) .add (((j + 1 : Nat) : Int)) rfl rfl rfl (show IntKind.i64.wrap ((j : Int) + 1) = ((j + 1 : Nat) : Int) from ((wr64' (by omega)).trans (by omega))) rfl) rfl ?_
        refine p_run (l' := _) _ (x_move (.int .i64 ((j + 1 : Nat) : Int)) rfl rfl) rfl ?_
        refine wpList_nil ?_
        refine fr_at (l' := [.agg ((nums .u8 (q.map bv))).toArray, .int .u64 (uv g), .pointer (some ⟨g5, 0, none⟩), undef, .pointer (some ⟨g8, 0, none⟩), .int .i64 0, .pointer (some ⟨g15, 0, none⟩), .int .i64 (j : Int), .agg ((nums .u8 zct)).toArray, .int .i64 ((j + 1 : Nat) : Int), .bool (decide ((j : Int) < 240)), .int .i64 (j : Int), .int .i64 (j : Int), .int .i64 (j : Int), .int .i64 ((8 + j : Nat) : Int), .pointer (some ⟨g5, (8 + j : Nat), none⟩), .int .u8 ((q.map bv).getD (8 + j : Nat) 0), .pointer (some ⟨g15, j, none⟩), .int .i64 ((j + 1 : Nat) : Int), undef, undef, undef, undef, undef, undef, undef]) rfl ?_
        rw [bd_at hq hlt, padN_set hjl (by omega)] at HS
        refine hJ26 (j + 1) _ _ ?_ ?_
        · show 240 - (j + 1) < 240 - j; omega
        · exact ⟨_, _, _, _, _, _, _, _, _, _, rfl, (((HS.front 2 rfl).front 2 rfl).front 2 rfl), (by omega)⟩
      · have hlt : j = 240 := by have := of_decide_eq_false hc34; omega
        subst hlt
        rw [show padN 240 (bdB q) 240 = (bdB q).map bv from by have := padN_all 240 (bdB q); rw [bdB_len hq] at this; rw [this]; simp] at HS
        refine wp_exit ?_
        refine hK20 _ _ ?_
        refine wp_seq_k (fun K46 hK47 => ?_)
        refine wp_seq_k (fun K48 hK49 => ?_)
        refine free_frame (n := 5) (T := _) [0, 0, 3, 0, 15] [(0, 19), (1, 20), (2, 21), (3, 22), (4, 23)] (fun bq_ vq_ w_ => qv ((fun i_ => match i_ with | 0 => some (.int .u64 (uv g)) | 1 => some (.agg ((nums .u8 ((bdB q).map bv))).toArray) | 3 => some (.agg ((nums .u8 (q.map bv))).toArray) | 4 => some (.bool true) | _ => none) : Nat → Option Value) bq_ vq_ ∧ cond (bq_ 2) (vq_ 2 = .agg ((nums .u8 (tlP g (bdB q)))).toArray ∧ St w0 F w_ (blk g15 ((nums .u8 ((bdB q).map bv))) 23 :: blk g8 ((nums .u8 zct)) 23 :: blk g5 ((nums .u8 (q.map bv))) 27 :: L)) ((St w0 F w_ (blk g15 ((nums .u8 ((bdB q).map bv))) 23 :: blk g8 ((nums .u8 zct)) 23 :: blk g5 ((nums .u8 (q.map bv))) 27 :: L)))) (by kernel_rfl) rfl rfl (by kernel_rfl) (by kernel_rfl) rfl (by kernel_rfl) (by kernel_rfl) ⟨qv_none, HS.draw⟩ ?_ ?_
        · clear HS
          intro i_ hi_ bq_ vq_ a_ w_ hG hb_ hon hoff hfr hel hval
          obtain ⟨hV, hE⟩ := hG
          have hi_ := List.mem_range.1 hi_
          have hcs : i_ = 0 ∨ i_ = 1 ∨ i_ = 2 ∨ i_ = 3 ∨ i_ = 4 := by omega
          rcases hcs with rfl | rfl | rfl | rfl | rfl
          · have h1 : a_.tmps[1]? = some (.int .u64 (uv g)) := (hel 1 (by decide)).trans rfl
            obtain ⟨l_, rfl⟩ := hfr
            have e1 : evl l_ (.tmp 1) = .int .u64 (uv g) := evl_of h1
            refine ⟨_, rfl, fun K_ hK_ => wp_of_list rfl ?_⟩
            intro ops_
            refine p_run (l' := _) _ (x_move (.int .u64 (uv g)) rfl e1) rfl ?_
            refine wpList_nil ?_
            exact norm_put (hK_ (.int .u64 (uv g)) _ ⟨qv_up hV (fun _ h => Option.some.inj h), hE⟩)
          · have h6 : a_.tmps[6]? = some (.pointer (some ⟨g15, 0, none⟩)) := (hel 6 (by decide)).trans rfl
            obtain ⟨l_, rfl⟩ := hfr
            have hE0 := hE
            rw [show bq_ 2 = false from (hoff 2 (by decide))] at hE0
            simp only [cond_true, cond_false] at hE0
            have HS := hE0
            have e6 : evl l_ (.tmp 6) = .pointer (some ⟨g15, 0, none⟩) := evl_of h6
            refine ⟨_, rfl, fun K_ hK_ => wp_of_list rfl ?_⟩
            intro ops_
            refine p_run (l' := _) _ (x_loads ((nums .u8 ((bdB q).map bv))) 240 rfl e6 (bkCells (HS.get (.head _)) 0 _ (whole _)) (by rfl) (by kernel_rfl) (by simp [List.length_map, bdB_len hq, nums_length])) rfl ?_
            refine wpList_nil ?_
            exact norm_put (hK_ (.agg ((nums .u8 ((bdB q).map bv))).toArray) _ ⟨qv_up hV (fun _ h => Option.some.inj h), hE⟩)
          · have h19 : a_.tmps[19]? = some (.int .u64 (uv g)) := (hval (0, 19) (by decide) (hon 0 (by decide))).trans (congrArg some (hV 0 _ rfl (hon 0 (by decide))))
            have h20 : a_.tmps[20]? = some (.agg ((nums .u8 ((bdB q).map bv))).toArray) := (hval (1, 20) (by decide) (hon 1 (by decide))).trans (congrArg some (hV 1 _ rfl (hon 1 (by decide))))
            obtain ⟨l_, rfl⟩ := hfr
            have hE0 := hE
            rw [show bq_ 2 = false from hb_] at hE0
            simp only [cond_true, cond_false] at hE0
            have HS := hE0
            have e19 : evl l_ (.tmp 19) = .int .u64 (uv g) := evl_of h19
            have e20 : evl l_ (.tmp 20) = .agg ((nums .u8 ((bdB q).map bv))).toArray := evl_of h20
            refine ⟨_, rfl, fun K_ hK_ => wp_of_list rfl ?_⟩
            intro ops_
            refine w_call [.int .u64 (uv g), .agg ((nums .u8 ((bdB q).map bv))).toArray] Try.func17 (by kernel_rfl) (by rfl) (by simp [e19, e20]) ?_
            refine (rpage_any HS g (bdB q) (bdB_len hq)).mono ?_
            clear HS
            rintro e w9201 ⟨rfl, HS⟩
            refine ⟨_, rfl, ?_⟩
            refine wpList_nil ?_
            refine norm_put (hK_ (.agg ((nums .u8 (tlP g (bdB q)))).toArray) _ ⟨qv_up hV (by intro _ h; cases h), ?_⟩)
            show cond true _ _
            rw [cond_true]
            exact ⟨rfl, (((HS.front 2 rfl).front 2 rfl).front 2 rfl)⟩
          · have h2 : a_.tmps[2]? = some (.pointer (some ⟨g5, 0, none⟩)) := (hel 2 (by decide)).trans rfl
            obtain ⟨l_, rfl⟩ := hfr
            rcases hq2 : bq_ 2 with _ | _
            · have hE0 := hE
              rw [show bq_ 2 = false from hq2] at hE0
              simp only [cond_true, cond_false] at hE0
              have HS := hE0
              have e2 : evl l_ (.tmp 2) = .pointer (some ⟨g5, 0, none⟩) := evl_of h2
              refine ⟨_, rfl, fun K_ hK_ => wp_of_list rfl ?_⟩
              intro ops_
              refine p_run (l' := _) _ (x_loads ((nums .u8 (q.map bv))) 256 rfl e2 (bkCells (HS.get (.tail _ (.tail _ (.head _)))) 0 _ (whole _)) (by rfl) (by kernel_rfl) (by simp [List.length_map, hq, nums_length])) rfl ?_
              refine wpList_nil ?_
              exact norm_put (hK_ (.agg ((nums .u8 (q.map bv))).toArray) _ ⟨qv_up hV (fun _ h => Option.some.inj h), hE⟩)
            · skip
              have hE0 := hE
              rw [show bq_ 2 = true from hq2] at hE0
              simp only [cond_true, cond_false] at hE0
              obtain ⟨hv2, HS⟩ := hE0
              have e2 : evl l_ (.tmp 2) = .pointer (some ⟨g5, 0, none⟩) := evl_of h2
              refine ⟨_, rfl, fun K_ hK_ => wp_of_list rfl ?_⟩
              intro ops_
              refine p_run (l' := _) _ (x_loads ((nums .u8 (q.map bv))) 256 rfl e2 (bkCells (HS.get (.tail _ (.tail _ (.head _)))) 0 _ (whole _)) (by rfl) (by kernel_rfl) (by simp [List.length_map, hq, nums_length])) rfl ?_
              refine wpList_nil ?_
              exact norm_put (hK_ (.agg ((nums .u8 (q.map bv))).toArray) _ ⟨qv_up hV (fun _ h => Option.some.inj h), hE⟩)
          · have h21 := hval (2, 21) (by decide) (hon 2 (by decide))
            have h22 : a_.tmps[22]? = some (.agg ((nums .u8 (q.map bv))).toArray) := (hval (3, 22) (by decide) (hon 3 (by decide))).trans (congrArg some (hV 3 _ rfl (hon 3 (by decide))))
            obtain ⟨l_, rfl⟩ := hfr
            have hE0 := hE
            rw [show bq_ 2 = true from (hon 2 (by decide))] at hE0
            simp only [cond_true, cond_false] at hE0
            obtain ⟨hv2, HS⟩ := hE0
            rw [hv2] at h21
            have e21 : evl l_ (.tmp 21) = .agg ((nums .u8 (tlP g (bdB q)))).toArray := evl_of h21
            have e22 : evl l_ (.tmp 22) = .agg ((nums .u8 (q.map bv))).toArray := evl_of h22
            refine ⟨_, rfl, fun K_ hK_ => wp_of_list rfl ?_⟩
            intro ops_
            refine p_run (l' := _) _ (x_eq .neq (.agg ((nums .u8 (tlP g (bdB q)))).toArray) (.agg ((nums .u8 (q.map bv))).toArray) (decide ((tlP g (bdB q)) = (q.map bv))) true rfl e21 e22 (equal_nums Try.underlying27 Try.underlying5 (by kernel_rfl) (by kernel_rfl) _ _ (by simp [tlP_len g (bdB_len hq)]) (by simp [List.length_map, hq])) (tl_eq g q false h) rfl (guard_agg (by kernel_rfl)) (guard_agg (by kernel_rfl))) rfl ?_
            refine wpList_nil ?_
            exact norm_put (hK_ (.bool true) _ ⟨qv_up hV (fun _ h => Option.some.inj h), hE⟩)
        intro bq_ vq_ w_ hall hG
        obtain ⟨hV, hE⟩ := hG
        clear HS
        rw [show bq_ 2 = true from hall 2 (by decide)] at hE
        simp only [cond_true] at hE
        obtain ⟨hv2, HS⟩ := hE
        have hv0 := hV 0 _ rfl (hall 0 (by decide))
        have hv1 := hV 1 _ rfl (hall 1 (by decide))
        have hv3 := hV 3 _ rfl (hall 3 (by decide))
        have hv4 := hV 4 _ rfl (hall 4 (by decide))
        clear hV hall
        rw [putSel_fr]
        simp only [tells, List.map_cons, List.map_nil, setAll, List.set_cons_succ, List.set_cons_zero, hv0, hv1, hv2, hv3, hv4]
        clear hv0 hv1 hv2 hv3 hv4
        generalize w_ = w9401 at HS ⊢
        refine fr_at (l' := [.agg ((nums .u8 (q.map bv))).toArray, .int .u64 (uv g), .pointer (some ⟨g5, 0, none⟩), undef, .pointer (some ⟨g8, 0, none⟩), .int .i64 0, .pointer (some ⟨g15, 0, none⟩), u7, .agg ((nums .u8 zct)).toArray, .int .i64 (240 : Int), .bool (decide ((240 : Int) < 240)), u11, u12, u13, u14, u15, u16, u17, u18, .int .u64 (uv g), .agg ((nums .u8 ((bdB q).map bv))).toArray, .agg ((nums .u8 (tlP g (bdB q)))).toArray, .agg ((nums .u8 (q.map bv))).toArray, .bool true, undef, undef]) rfl ?_
        refine hK49 _ _ ?_
        refine c_true rfl ?_
        refine wp_seq_k (fun K9402 hK9403 => ?_)
        refine c_region (fun ops9405 hops9404 => ?_)
        clear hops9404
        refine p_run (l' := _) _ (x_build ((nums .u8 zct)) rfl (by kernel_rfl)) rfl ?_
        refine St.stores (cs' := ((nums .u8 zct))) (HS.front 1 rfl) ((nums .u8 zct)) 240 rfl rfl (nums_one _ _) (by kernel_rfl) (by simp [nums_length, zlen240]) (by simp [nums_length, zlen240]) (lay_all _ _ (by simp [nums_length, zlen240])) ?_
        clear HS
        intro w9406 HS
        refine p_run (l' := _) _ (x_assign (.int .i64 61) rfl rfl) rfl ?_
        refine wpList_nil ?_
        refine fr_at (l' := [.agg ((nums .u8 (q.map bv))).toArray, .int .u64 (uv g), .pointer (some ⟨g5, 0, none⟩), undef, .pointer (some ⟨g8, 0, none⟩), .int .i64 61, .pointer (some ⟨g15, 0, none⟩), u7, .agg ((nums .u8 zct)).toArray, .int .i64 (240 : Int), .bool (decide ((240 : Int) < 240)), u11, u12, u13, u14, u15, u16, u17, u18, .int .u64 (uv g), .agg ((nums .u8 ((bdB q).map bv))).toArray, .agg ((nums .u8 (tlP g (bdB q)))).toArray, .agg ((nums .u8 (q.map bv))).toArray, .bool true, .agg ((nums .u8 zct)).toArray, undef]) rfl ?_
        refine hK9403 _ _ ?_
        refine wp_ret ?_
        try simp only [Exit.inBlock, Exit.then]
        refine c_ret (.tuple [.agg ((nums .u8 zct)).toArray, .int .i64 61].toArray) (r_ct rfl rfl (run_loadVar_aggn (by rfl) ((nums .u8 zct)) 240 (by kernel_rfl) (by simp [nums_length, zlen240]) (bkCells (HS.get (.head _)) 0 _ (whole _))) rfl) ?_
        have e1 : tlC g q = zB := by unfold tlC; rw [h]; rfl
        have e2 : tlE g q = 61 := by unfold tlE; rw [h]; rfl
        rw [e1, e2, ← zct_eq]
        exact ⟨rfl, HS.drop.drop.drop⟩
  · skip
    refine c_enter Try.func16 rfl 26 rfl [.agg ((nums .u8 (q.map bv))).toArray, .int .u64 (uv g), undef, undef, undef, undef, undef, undef, undef, undef, undef, undef, undef, undef, undef, undef, undef, undef, undef, undef, undef, undef, undef, undef, undef, undef] rfl ?_
    refine wp_seq_k (fun K1 hK2 => ?_)
    refine c_region (fun ops4 hops3 => ?_)
    clear hops3
    refine St.wBox HS (cs := ((nums .u8 (q.map bv)))) (.agg ((nums .u8 (q.map bv))).toArray) rfl rfl ?_
    clear HS
    intro g5 w6 hg7 HS
    refine St.wAlloc HS (cs := ((nums .u8 zct))) (.agg ((nums .u8 zct)).toArray) (by kernel_rfl) rfl ?_
    clear HS
    intro g8 w9 hg10 HS
    refine p_run (l' := _) _ (x_assign (.int .i64 0) rfl rfl) rfl ?_
    refine wpList_nil ?_
    refine fr_at (l' := [.agg ((nums .u8 (q.map bv))).toArray, .int .u64 (uv g), .pointer (some ⟨g5, 0, none⟩), undef, .pointer (some ⟨g8, 0, none⟩), .int .i64 0, undef, undef, undef, undef, undef, undef, undef, undef, undef, undef, undef, undef, undef, undef, undef, undef, undef, undef, undef, undef]) rfl ?_
    refine hK2 _ _ ?_
    refine wp_seq_k (fun K11 hK12 => ?_)
    refine c_region (fun ops14 hops13 => ?_)
    clear hops13
    refine p_run (l' := _) _ (x_build ((nums .u8 zct)) rfl (by kernel_rfl)) rfl ?_
    refine St.wAlloc HS (cs := ((nums .u8 zct))) (.agg ((nums .u8 zct)).toArray) (by kernel_rfl) rfl ?_
    clear HS
    intro g15 w16 hg17 HS
    refine St.stores (cs' := ((nums .u8 zct))) HS ((nums .u8 zct)) 240 rfl rfl (nums_one _ _) (by kernel_rfl) (by simp [nums_length, zlen240]) (by simp [nums_length, zlen240]) (lay_all _ _ (by simp [nums_length, zlen240])) ?_
    clear HS
    intro w18 HS
    refine wpList_nil ?_
    refine fr_at (l' := [.agg ((nums .u8 (q.map bv))).toArray, .int .u64 (uv g), .pointer (some ⟨g5, 0, none⟩), undef, .pointer (some ⟨g8, 0, none⟩), .int .i64 0, .pointer (some ⟨g15, 0, none⟩), undef, .agg ((nums .u8 zct)).toArray, undef, undef, undef, undef, undef, undef, undef, undef, undef, undef, undef, undef, undef, undef, undef, undef, undef]) rfl ?_
    refine hK12 _ _ ?_
    refine wp_seq_k (fun K19 hK20 => ?_)
    refine wp_seq_k (fun K21 hK22 => ?_)
    refine c_region (fun ops24 hops23 => ?_)
    clear hops23
    refine p_run (l' := _) _ (x_move (.int .i64 0) rfl rfl) rfl ?_
    refine wpList_nil ?_
    refine fr_at (l' := [.agg ((nums .u8 (q.map bv))).toArray, .int .u64 (uv g), .pointer (some ⟨g5, 0, none⟩), undef, .pointer (some ⟨g8, 0, none⟩), .int .i64 0, .pointer (some ⟨g15, 0, none⟩), undef, .agg ((nums .u8 zct)).toArray, .int .i64 0, undef, undef, undef, undef, undef, undef, undef, undef, undef, undef, undef, undef, undef, undef, undef, undef]) rfl ?_
    refine hK22 _ _ ?_
    refine wp_block ?_
    refine c_loop (ι := Nat) (fun i_ a_ w_ => match i_ with | j => ∃ (u7 : Value) (u10 : Value) (u11 : Value) (u12 : Value) (u13 : Value) (u14 : Value) (u15 : Value) (u16 : Value) (u17 : Value) (u18 : Value), a_ = fr [.agg ((nums .u8 (q.map bv))).toArray, .int .u64 (uv g), .pointer (some ⟨g5, 0, none⟩), undef, .pointer (some ⟨g8, 0, none⟩), .int .i64 0, .pointer (some ⟨g15, 0, none⟩), u7, .agg ((nums .u8 zct)).toArray, .int .i64 (j : Int), u10, u11, u12, u13, u14, u15, u16, u17, u18, undef, undef, undef, undef, undef, undef, undef] ∧ St w0 F w_ (blk g15 ((nums .u8 (padN 240 (bdB q) j))) 23 :: blk g8 ((nums .u8 zct)) 23 :: blk g5 ((nums .u8 (q.map bv))) 27 :: L) ∧ (j ≤ 240)) (fun i_ => match i_ with | j => 240 - j) 0 ?_ ?_
    · exact ⟨_, _, _, _, _, _, _, _, _, _, rfl, (by rw [padN_zero]; exact (((HS.front 2 rfl).front 2 rfl).front 2 rfl)), (by omega)⟩
    · clear HS
      rintro j a_ w27 ⟨u7, u10, u11, u12, u13, u14, u15, u16, u17, u18, rfl, HS, hI⟩ J25 hJ26
      have hj := hI
      refine wp_seq_k (fun K28 hK29 => ?_)
      refine c_region (fun ops31 hops30 => ?_)
      clear hops30
      refine p_run (l' := _) _ (x_cmp (k := .i64) (m := (j : Int)) (n := 240) .lss (decide ((j : Int) < 240)) rfl rfl rfl rfl rfl) rfl ?_
      refine wpList_nil ?_
      refine fr_at (l' := [.agg ((nums .u8 (q.map bv))).toArray, .int .u64 (uv g), .pointer (some ⟨g5, 0, none⟩), undef, .pointer (some ⟨g8, 0, none⟩), .int .i64 0, .pointer (some ⟨g15, 0, none⟩), u7, .agg ((nums .u8 zct)).toArray, .int .i64 (j : Int), .bool (decide ((j : Int) < 240)), u11, u12, u13, u14, u15, u16, u17, u18, undef, undef, undef, undef, undef, undef, undef]) rfl ?_
      refine hK29 _ _ ?_
      refine wp_seq_k (fun K32 hK33 => ?_)
      refine c_cond (t := decide ((j : Int) < 240)) rfl (fun hc34 => ?_) (fun hc34 => ?_)
      · have hlt : j < 240 := by have := of_decide_eq_true hc34; omega
        have hjl : j < (bdB q).length := by rw [bdB_len hq]; exact hlt
        refine wp_skip ?_
        refine hK33 _ _ ?_
        refine wp_seq_k (fun K35 hK36 => ?_)
        refine wp_block ?_
        refine wp_seq_k (fun K37 hK38 => ?_)
        refine c_region (fun ops40 hops39 => ?_)
        clear hops39
        refine p_run (l' := _) _ (x_move (.int .i64 (j : Int)) rfl rfl) rfl ?_
        refine p_run (l' := _) _ (x_assign (.int .i64 (j : Int)) rfl rfl) rfl ?_
        refine wpList_nil ?_
        refine fr_at (l' := [.agg ((nums .u8 (q.map bv))).toArray, .int .u64 (uv g), .pointer (some ⟨g5, 0, none⟩), undef, .pointer (some ⟨g8, 0, none⟩), .int .i64 0, .pointer (some ⟨g15, 0, none⟩), .int .i64 (j : Int), .agg ((nums .u8 zct)).toArray, .int .i64 (j : Int), .bool (decide ((j : Int) < 240)), .int .i64 (j : Int), u12, u13, u14, u15, u16, u17, u18, undef, undef, undef, undef, undef, undef, undef]) rfl ?_
        refine hK38 _ _ ?_
        refine c_region (fun ops42 hops41 => ?_)
        clear hops41
        refine p_run (l' := _) _ (x_move (.int .i64 (j : Int)) rfl rfl) rfl ?_
        refine p_run (l' := _) _ (x_move (.int .i64 (j : Int)) rfl rfl) rfl ?_
        refine p_run (l' := _) _ (x_arith (k := .i64) (m := 8) (n := (j : Int)) .add (((8 + j : Nat) : Int)) rfl rfl rfl (show IntKind.i64.wrap (8 + (j : Int)) = ((8 + j : Nat) : Int) from ((wr64' (by omega)).trans (by omega))) rfl) rfl ?_
        refine p_run (l' := [.agg ((nums .u8 (q.map bv))).toArray, .int .u64 (uv g), .pointer (some ⟨g5, 0, none⟩), undef, .pointer (some ⟨g8, 0, none⟩), .int .i64 0, .pointer (some ⟨g15, 0, none⟩), .int .i64 (j : Int), .agg ((nums .u8 zct)).toArray, .int .i64 (j : Int), .bool (decide ((j : Int) < 240)), .int .i64 (j : Int), .int .i64 (j : Int), .int .i64 (j : Int), .int .i64 ((8 + j : Nat) : Int), .pointer (some ⟨g5, (8 + j : Nat), none⟩), u16, u17, u18, undef, undef, undef, undef, undef, undef, undef]) _ (x_indexArr (sz := 1) (j := (8 + j : Nat)) rfl rfl rfl Try.underlying27 (by kernel_rfl) (by omega) (by first | rfl | (simp; done) | (simp <;> omega) | omega)) rfl ?_
        refine p_run (l' := _) _ (x_load (.int .u8 ((q.map bv).getD (8 + j : Nat) 0)) rfl rfl (bkCell (HS.get (.tail _ (.tail _ (.head _)))) (8 + j : Nat) _ (nums_getD (by simp only [List.length_map, hq]; omega))) (by rfl)) rfl ?_
        refine p_run (l' := _) _ (x_indexArr (sz := 1) (j := j) rfl rfl rfl Try.underlying23 (by kernel_rfl) (by omega) (by first | rfl | (simp; done) | (simp <;> omega) | omega)) rfl ?_
        refine St.store (cs' := (nums .u8 ((padN 240 (bdB q) j).set j ((q.map bv).getD (8 + j : Nat) 0)))) HS (.int .u8 ((q.map bv).getD (8 + j : Nat) 0)) rfl rfl rfl (by kernel_rfl) (decide_eq_true (by simp only [nums_length, padN_len (show j ≤ (bdB q).length by rw [bdB_len hq]; exact hj) (show j ≤ 240 by omega)]; omega)) (nums_set _ _ _ _) ?_
        clear HS
        intro w43 HS
        refine wpList_nil ?_
        refine fr_at (l' := [.agg ((nums .u8 (q.map bv))).toArray, .int .u64 (uv g), .pointer (some ⟨g5, 0, none⟩), undef, .pointer (some ⟨g8, 0, none⟩), .int .i64 0, .pointer (some ⟨g15, 0, none⟩), .int .i64 (j : Int), .agg ((nums .u8 zct)).toArray, .int .i64 (j : Int), .bool (decide ((j : Int) < 240)), .int .i64 (j : Int), .int .i64 (j : Int), .int .i64 (j : Int), .int .i64 ((8 + j : Nat) : Int), .pointer (some ⟨g5, (8 + j : Nat), none⟩), .int .u8 ((q.map bv).getD (8 + j : Nat) 0), .pointer (some ⟨g15, j, none⟩), u18, undef, undef, undef, undef, undef, undef, undef]) rfl ?_
        refine hK36 _ _ ?_
        refine c_region (fun ops45 hops44 => ?_)
        clear hops44
        refine p_run (l' := _) _ (x_arith (k := .i64) (m := (j : Int)) (n := 1) .add (((j + 1 : Nat) : Int)) rfl rfl rfl (show IntKind.i64.wrap ((j : Int) + 1) = ((j + 1 : Nat) : Int) from ((wr64' (by omega)).trans (by omega))) rfl) rfl ?_
        refine p_run (l' := _) _ (x_move (.int .i64 ((j + 1 : Nat) : Int)) rfl rfl) rfl ?_
        refine wpList_nil ?_
        refine fr_at (l' := [.agg ((nums .u8 (q.map bv))).toArray, .int .u64 (uv g), .pointer (some ⟨g5, 0, none⟩), undef, .pointer (some ⟨g8, 0, none⟩), .int .i64 0, .pointer (some ⟨g15, 0, none⟩), .int .i64 (j : Int), .agg ((nums .u8 zct)).toArray, .int .i64 ((j + 1 : Nat) : Int), .bool (decide ((j : Int) < 240)), .int .i64 (j : Int), .int .i64 (j : Int), .int .i64 (j : Int), .int .i64 ((8 + j : Nat) : Int), .pointer (some ⟨g5, (8 + j : Nat), none⟩), .int .u8 ((q.map bv).getD (8 + j : Nat) 0), .pointer (some ⟨g15, j, none⟩), .int .i64 ((j + 1 : Nat) : Int), undef, undef, undef, undef, undef, undef, undef]) rfl ?_
        rw [bd_at hq hlt, padN_set hjl (by omega)] at HS
        refine hJ26 (j + 1) _ _ ?_ ?_
        · show 240 - (j + 1) < 240 - j; omega
        · exact ⟨_, _, _, _, _, _, _, _, _, _, rfl, (((HS.front 2 rfl).front 2 rfl).front 2 rfl), (by omega)⟩
      · have hlt : j = 240 := by have := of_decide_eq_false hc34; omega
        subst hlt
        rw [show padN 240 (bdB q) 240 = (bdB q).map bv from by have := padN_all 240 (bdB q); rw [bdB_len hq] at this; rw [this]; simp] at HS
        refine wp_exit ?_
        refine hK20 _ _ ?_
        refine wp_seq_k (fun K46 hK47 => ?_)
        refine wp_seq_k (fun K48 hK49 => ?_)
        refine free_frame (n := 5) (T := _) [0, 0, 3, 0, 15] [(0, 19), (1, 20), (2, 21), (3, 22), (4, 23)] (fun bq_ vq_ w_ => qv ((fun i_ => match i_ with | 0 => some (.int .u64 (uv g)) | 1 => some (.agg ((nums .u8 ((bdB q).map bv))).toArray) | 3 => some (.agg ((nums .u8 (q.map bv))).toArray) | 4 => some (.bool false) | _ => none) : Nat → Option Value) bq_ vq_ ∧ cond (bq_ 2) (vq_ 2 = .agg ((nums .u8 (tlP g (bdB q)))).toArray ∧ St w0 F w_ (blk g15 ((nums .u8 ((bdB q).map bv))) 23 :: blk g8 ((nums .u8 zct)) 23 :: blk g5 ((nums .u8 (q.map bv))) 27 :: L)) ((St w0 F w_ (blk g15 ((nums .u8 ((bdB q).map bv))) 23 :: blk g8 ((nums .u8 zct)) 23 :: blk g5 ((nums .u8 (q.map bv))) 27 :: L)))) (by kernel_rfl) rfl rfl (by kernel_rfl) (by kernel_rfl) rfl (by kernel_rfl) (by kernel_rfl) ⟨qv_none, HS.draw⟩ ?_ ?_
        · clear HS
          intro i_ hi_ bq_ vq_ a_ w_ hG hb_ hon hoff hfr hel hval
          obtain ⟨hV, hE⟩ := hG
          have hi_ := List.mem_range.1 hi_
          have hcs : i_ = 0 ∨ i_ = 1 ∨ i_ = 2 ∨ i_ = 3 ∨ i_ = 4 := by omega
          rcases hcs with rfl | rfl | rfl | rfl | rfl
          · have h1 : a_.tmps[1]? = some (.int .u64 (uv g)) := (hel 1 (by decide)).trans rfl
            obtain ⟨l_, rfl⟩ := hfr
            have e1 : evl l_ (.tmp 1) = .int .u64 (uv g) := evl_of h1
            refine ⟨_, rfl, fun K_ hK_ => wp_of_list rfl ?_⟩
            intro ops_
            refine p_run (l' := _) _ (x_move (.int .u64 (uv g)) rfl e1) rfl ?_
            refine wpList_nil ?_
            exact norm_put (hK_ (.int .u64 (uv g)) _ ⟨qv_up hV (fun _ h => Option.some.inj h), hE⟩)
          · have h6 : a_.tmps[6]? = some (.pointer (some ⟨g15, 0, none⟩)) := (hel 6 (by decide)).trans rfl
            obtain ⟨l_, rfl⟩ := hfr
            have hE0 := hE
            rw [show bq_ 2 = false from (hoff 2 (by decide))] at hE0
            simp only [cond_true, cond_false] at hE0
            have HS := hE0
            have e6 : evl l_ (.tmp 6) = .pointer (some ⟨g15, 0, none⟩) := evl_of h6
            refine ⟨_, rfl, fun K_ hK_ => wp_of_list rfl ?_⟩
            intro ops_
            refine p_run (l' := _) _ (x_loads ((nums .u8 ((bdB q).map bv))) 240 rfl e6 (bkCells (HS.get (.head _)) 0 _ (whole _)) (by rfl) (by kernel_rfl) (by simp [List.length_map, bdB_len hq, nums_length])) rfl ?_
            refine wpList_nil ?_
            exact norm_put (hK_ (.agg ((nums .u8 ((bdB q).map bv))).toArray) _ ⟨qv_up hV (fun _ h => Option.some.inj h), hE⟩)
          · have h19 : a_.tmps[19]? = some (.int .u64 (uv g)) := (hval (0, 19) (by decide) (hon 0 (by decide))).trans (congrArg some (hV 0 _ rfl (hon 0 (by decide))))
            have h20 : a_.tmps[20]? = some (.agg ((nums .u8 ((bdB q).map bv))).toArray) := (hval (1, 20) (by decide) (hon 1 (by decide))).trans (congrArg some (hV 1 _ rfl (hon 1 (by decide))))
            obtain ⟨l_, rfl⟩ := hfr
            have hE0 := hE
            rw [show bq_ 2 = false from hb_] at hE0
            simp only [cond_true, cond_false] at hE0
            have HS := hE0
            have e19 : evl l_ (.tmp 19) = .int .u64 (uv g) := evl_of h19
            have e20 : evl l_ (.tmp 20) = .agg ((nums .u8 ((bdB q).map bv))).toArray := evl_of h20
            refine ⟨_, rfl, fun K_ hK_ => wp_of_list rfl ?_⟩
            intro ops_
            refine w_call [.int .u64 (uv g), .agg ((nums .u8 ((bdB q).map bv))).toArray] Try.func17 (by kernel_rfl) (by rfl) (by simp [e19, e20]) ?_
            refine (rpage_any HS g (bdB q) (bdB_len hq)).mono ?_
            clear HS
            rintro e w9201 ⟨rfl, HS⟩
            refine ⟨_, rfl, ?_⟩
            refine wpList_nil ?_
            refine norm_put (hK_ (.agg ((nums .u8 (tlP g (bdB q)))).toArray) _ ⟨qv_up hV (by intro _ h; cases h), ?_⟩)
            show cond true _ _
            rw [cond_true]
            exact ⟨rfl, (((HS.front 2 rfl).front 2 rfl).front 2 rfl)⟩
          · have h2 : a_.tmps[2]? = some (.pointer (some ⟨g5, 0, none⟩)) := (hel 2 (by decide)).trans rfl
            obtain ⟨l_, rfl⟩ := hfr
            rcases hq2 : bq_ 2 with _ | _
            · have hE0 := hE
              rw [show bq_ 2 = false from hq2] at hE0
              simp only [cond_true, cond_false] at hE0
              have HS := hE0
              have e2 : evl l_ (.tmp 2) = .pointer (some ⟨g5, 0, none⟩) := evl_of h2
              refine ⟨_, rfl, fun K_ hK_ => wp_of_list rfl ?_⟩
              intro ops_
              refine p_run (l' := _) _ (x_loads ((nums .u8 (q.map bv))) 256 rfl e2 (bkCells (HS.get (.tail _ (.tail _ (.head _)))) 0 _ (whole _)) (by rfl) (by kernel_rfl) (by simp [List.length_map, hq, nums_length])) rfl ?_
              refine wpList_nil ?_
              exact norm_put (hK_ (.agg ((nums .u8 (q.map bv))).toArray) _ ⟨qv_up hV (fun _ h => Option.some.inj h), hE⟩)
            · skip
              have hE0 := hE
              rw [show bq_ 2 = true from hq2] at hE0
              simp only [cond_true, cond_false] at hE0
              obtain ⟨hv2, HS⟩ := hE0
              have e2 : evl l_ (.tmp 2) = .pointer (some ⟨g5, 0, none⟩) := evl_of h2
              refine ⟨_, rfl, fun K_ hK_ => wp_of_list rfl ?_⟩
              intro ops_
              refine p_run (l' := _) _ (x_loads ((nums .u8 (q.map bv))) 256 rfl e2 (bkCells (HS.get (.tail _ (.tail _ (.head _)))) 0 _ (whole _)) (by rfl) (by kernel_rfl) (by simp [List.length_map, hq, nums_length])) rfl ?_
              refine wpList_nil ?_
              exact norm_put (hK_ (.agg ((nums .u8 (q.map bv))).toArray) _ ⟨qv_up hV (fun _ h => Option.some.inj h), hE⟩)
          · have h21 := hval (2, 21) (by decide) (hon 2 (by decide))
            have h22 : a_.tmps[22]? = some (.agg ((nums .u8 (q.map bv))).toArray) := (hval (3, 22) (by decide) (hon 3 (by decide))).trans (congrArg some (hV 3 _ rfl (hon 3 (by decide))))
            obtain ⟨l_, rfl⟩ := hfr
            have hE0 := hE
            rw [show bq_ 2 = true from (hon 2 (by decide))] at hE0
            simp only [cond_true, cond_false] at hE0
            obtain ⟨hv2, HS⟩ := hE0
            rw [hv2] at h21
            have e21 : evl l_ (.tmp 21) = .agg ((nums .u8 (tlP g (bdB q)))).toArray := evl_of h21
            have e22 : evl l_ (.tmp 22) = .agg ((nums .u8 (q.map bv))).toArray := evl_of h22
            refine ⟨_, rfl, fun K_ hK_ => wp_of_list rfl ?_⟩
            intro ops_
            refine p_run (l' := _) _ (x_eq .neq (.agg ((nums .u8 (tlP g (bdB q)))).toArray) (.agg ((nums .u8 (q.map bv))).toArray) (decide ((tlP g (bdB q)) = (q.map bv))) false rfl e21 e22 (equal_nums Try.underlying27 Try.underlying5 (by kernel_rfl) (by kernel_rfl) _ _ (by simp [tlP_len g (bdB_len hq)]) (by simp [List.length_map, hq])) (tl_eq g q true h) rfl (guard_agg (by kernel_rfl)) (guard_agg (by kernel_rfl))) rfl ?_
            refine wpList_nil ?_
            exact norm_put (hK_ (.bool false) _ ⟨qv_up hV (fun _ h => Option.some.inj h), hE⟩)
        intro bq_ vq_ w_ hall hG
        obtain ⟨hV, hE⟩ := hG
        clear HS
        rw [show bq_ 2 = true from hall 2 (by decide)] at hE
        simp only [cond_true] at hE
        obtain ⟨hv2, HS⟩ := hE
        have hv0 := hV 0 _ rfl (hall 0 (by decide))
        have hv1 := hV 1 _ rfl (hall 1 (by decide))
        have hv3 := hV 3 _ rfl (hall 3 (by decide))
        have hv4 := hV 4 _ rfl (hall 4 (by decide))
        clear hV hall
        rw [putSel_fr]
        simp only [tells, List.map_cons, List.map_nil, setAll, List.set_cons_succ, List.set_cons_zero, hv0, hv1, hv2, hv3, hv4]
        clear hv0 hv1 hv2 hv3 hv4
        generalize w_ = w9401 at HS ⊢
        refine fr_at (l' := [.agg ((nums .u8 (q.map bv))).toArray, .int .u64 (uv g), .pointer (some ⟨g5, 0, none⟩), undef, .pointer (some ⟨g8, 0, none⟩), .int .i64 0, .pointer (some ⟨g15, 0, none⟩), u7, .agg ((nums .u8 zct)).toArray, .int .i64 (240 : Int), .bool (decide ((240 : Int) < 240)), u11, u12, u13, u14, u15, u16, u17, u18, .int .u64 (uv g), .agg ((nums .u8 ((bdB q).map bv))).toArray, .agg ((nums .u8 (tlP g (bdB q)))).toArray, .agg ((nums .u8 (q.map bv))).toArray, .bool false, undef, undef]) rfl ?_
        refine hK49 _ _ ?_
        refine c_false rfl ?_
        refine wp_skip ?_
        refine hK47 _ _ ?_
        refine wp_seq_k (fun K9402 hK9403 => ?_)
        refine c_region (fun ops9405 hops9404 => ?_)
        clear hops9404
        refine p_run (l' := _) _ (x_loads ((nums .u8 ((bdB q).map bv))) 240 rfl rfl (bkCells (HS.get (.head _)) 0 _ (whole _)) (by rfl) (by kernel_rfl) (by simp [List.length_map, bdB_len hq, nums_length])) rfl ?_
        refine St.stores (cs' := ((nums .u8 ((bdB q).map bv)))) (HS.front 1 rfl) ((nums .u8 ((bdB q).map bv))) 240 rfl rfl (nums_one _ _) (by kernel_rfl) (by simp [List.length_map, bdB_len hq, nums_length]) (by simp [List.length_map, bdB_len hq, nums_length, zlen240]) (lay_all _ _ (by simp [List.length_map, bdB_len hq, nums_length, zlen240])) ?_
        clear HS
        intro w9406 HS
        refine p_run (l' := _) _ (x_assign (.int .i64 0) rfl rfl) rfl ?_
        refine wpList_nil ?_
        refine fr_at (l' := [.agg ((nums .u8 (q.map bv))).toArray, .int .u64 (uv g), .pointer (some ⟨g5, 0, none⟩), undef, .pointer (some ⟨g8, 0, none⟩), .int .i64 0, .pointer (some ⟨g15, 0, none⟩), u7, .agg ((nums .u8 zct)).toArray, .int .i64 (240 : Int), .bool (decide ((240 : Int) < 240)), u11, u12, u13, u14, u15, u16, u17, u18, .int .u64 (uv g), .agg ((nums .u8 ((bdB q).map bv))).toArray, .agg ((nums .u8 (tlP g (bdB q)))).toArray, .agg ((nums .u8 (q.map bv))).toArray, .bool false, undef, .agg ((nums .u8 ((bdB q).map bv))).toArray]) rfl ?_
        refine hK9403 _ _ ?_
        refine wp_ret ?_
        try simp only [Exit.inBlock, Exit.then]
        refine c_ret (.tuple [.agg ((nums .u8 ((bdB q).map bv))).toArray, .int .i64 0].toArray) (r_ct rfl rfl (run_loadVar_aggn (by rfl) ((nums .u8 ((bdB q).map bv))) 240 (by kernel_rfl) (by simp [List.length_map, bdB_len hq, nums_length]) (bkCells (HS.get (.head _)) 0 _ (whole _))) rfl) ?_
        have e1 : tlC g q = bdB q := by unfold tlC; rw [h]; rfl
        have e2 : tlE g q = 0 := by unfold tlE; rw [h]; rfl
        rw [e1, e2]
        exact ⟨rfl, HS.drop.drop.drop⟩

theorem cmp_t {a b : Int} (h : cmpB .eql a b = true) : a = b := by simpa [cmpB] using h
theorem cmp_f {a b : Int} (h : cmpB .eql a b = false) : ¬ a = b := by simpa [cmpB] using h

set_option maxRecDepth 10000 in
theorem rarea_any (g : UInt64) (W : World) : Calls Try.prog 19 #[.int .u64 (uv g)] W fun e w' => e = .returned (.int .i64 (tlA g)) ∧ w' = W := by
  have HS : St W (fun _ => False) W [] := St.empty W
  rcases h : cmpB .eql (uv g % 2) 0 with _ | _
  · skip
    refine c_enter Try.func19 rfl 6 rfl [.int .u64 (uv g), undef, undef, undef, undef, undef] rfl ?_
    refine wp_seq_k (fun K1 hK2 => ?_)
    refine c_region (fun ops4 hops3 => ?_)
    clear hops3
    refine p_run (l' := _) _ (x_assign (.int .i64 0) rfl rfl) rfl ?_
    refine wpList_nil ?_
    refine fr_at (l' := [.int .u64 (uv g), undef, .int .i64 0, undef, undef, undef]) rfl ?_
    refine hK2 _ _ ?_
    refine wp_seq_k (fun K5 hK6 => ?_)
    refine wp_seq_k (fun K7 hK8 => ?_)
    refine c_region (fun ops10 hops9 => ?_)
    clear hops9
    refine p_run (l' := _) _ (x_move (.int .u64 (uv g)) rfl rfl) rfl ?_
    refine p_run (l' := _) _ (x_rem (k := .u64) (m := (uv g)) (n := 2) ((uv g % 2)) rfl rfl rfl (by decide) (mod2 g)) rfl ?_
    refine p_run (l' := _) _ (x_cmp (k := .u64) (m := (uv g % 2)) (n := 0) .eql false rfl rfl rfl h rfl) rfl ?_
    refine wpList_nil ?_
    refine fr_at (l' := [.int .u64 (uv g), undef, .int .i64 0, .int .u64 (uv g), .int .u64 (uv g % 2), .bool false]) rfl ?_
    refine hK8 _ _ ?_
    refine c_false rfl ?_
    refine wp_skip ?_
    refine hK6 _ _ ?_
    refine wp_seq_k (fun K11 hK12 => ?_)
    refine c_region (fun ops14 hops13 => ?_)
    clear hops13
    refine p_run (l' := _) _ (x_assign (.int .i64 3) rfl rfl) rfl ?_
    refine wpList_nil ?_
    refine fr_at (l' := [.int .u64 (uv g), undef, .int .i64 3, .int .u64 (uv g), .int .u64 (uv g % 2), .bool false]) rfl ?_
    refine hK12 _ _ ?_
    refine wp_ret ?_
    try simp only [Exit.inBlock, Exit.then]
    refine c_ret (.int .i64 3) (r_tmp rfl rfl) ?_
    have e1 : tlA g = 3 := by unfold tlA; have := cmp_f h; have := uv_lo g; omega
    rw [e1]
    exact ⟨rfl, rfl⟩
  · skip
    refine c_enter Try.func19 rfl 6 rfl [.int .u64 (uv g), undef, undef, undef, undef, undef] rfl ?_
    refine wp_seq_k (fun K1 hK2 => ?_)
    refine c_region (fun ops4 hops3 => ?_)
    clear hops3
    refine p_run (l' := _) _ (x_assign (.int .i64 0) rfl rfl) rfl ?_
    refine wpList_nil ?_
    refine fr_at (l' := [.int .u64 (uv g), undef, .int .i64 0, undef, undef, undef]) rfl ?_
    refine hK2 _ _ ?_
    refine wp_seq_k (fun K5 hK6 => ?_)
    refine wp_seq_k (fun K7 hK8 => ?_)
    refine c_region (fun ops10 hops9 => ?_)
    clear hops9
    refine p_run (l' := _) _ (x_move (.int .u64 (uv g)) rfl rfl) rfl ?_
    refine p_run (l' := _) _ (x_rem (k := .u64) (m := (uv g)) (n := 2) ((uv g % 2)) rfl rfl rfl (by decide) (mod2 g)) rfl ?_
    refine p_run (l' := _) _ (x_cmp (k := .u64) (m := (uv g % 2)) (n := 0) .eql true rfl rfl rfl h rfl) rfl ?_
    refine wpList_nil ?_
    refine fr_at (l' := [.int .u64 (uv g), undef, .int .i64 0, .int .u64 (uv g), .int .u64 (uv g % 2), .bool true]) rfl ?_
    refine hK8 _ _ ?_
    refine c_true rfl ?_
    refine wp_seq_k (fun K11 hK12 => ?_)
    refine c_region (fun ops14 hops13 => ?_)
    clear hops13
    refine p_run (l' := _) _ (x_assign (.int .i64 2) rfl rfl) rfl ?_
    refine wpList_nil ?_
    refine fr_at (l' := [.int .u64 (uv g), undef, .int .i64 2, .int .u64 (uv g), .int .u64 (uv g % 2), .bool true]) rfl ?_
    refine hK12 _ _ ?_
    refine wp_ret ?_
    try simp only [Exit.inBlock, Exit.then]
    refine c_ret (.int .i64 2) (r_tmp rfl rfl) ?_
    have e1 : tlA g = 2 := by unfold tlA; have := cmp_t h; have := uv_lo g; omega
    rw [e1]
    exact ⟨rfl, rfl⟩
end
end Go.Proofs.Ytiokdpnhaemciaa
