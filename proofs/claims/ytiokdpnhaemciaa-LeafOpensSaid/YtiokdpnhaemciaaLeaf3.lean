/- Package leaf: Page. -/
import Derived.Test.YtiokdpnhaemciaaLeaf2
import Derived.Test.YtiokdpnhaemciaaSealR
set_option linter.unusedVariables false
set_option linter.unusedSimpArgs false
namespace Go.Proofs.Ytiokdpnhaemciaa
open Go.RowKit Go.Proofs.YtiokdpnhaemciaaW.PrintWords Go.Proofs.YtiokdpnhaemciaaW.PrintLast Crc
abbrev U4l3 (l : List Value) : List Value := undef :: undef :: undef :: undef :: l
abbrev U8l3 (l : List Value) : List Value := U4l3 (U4l3 l)
abbrev U16l3 (l : List Value) : List Value := U8l3 (U8l3 l)
abbrev U32l3 (l : List Value) : List Value := U16l3 (U16l3 l)
abbrev U64l3 (l : List Value) : List Value := U32l3 (U32l3 l)
theorem nbytesS (w : World) (k : Int) (b : List UInt8) (hb : b.length = 16) (A : Option Addr) (c : Nat) (es : List (Int × Int)) (hr : kEn.C w A es.length es) (hl : es.length ≤ 1000) : Calls Try.prog 37 #[.agg (Value.int .i64 k :: ((nums .u8 (b.map bv)) ++ ([Value.slice A es.length c]))).toArray] w fun e w' => ∃ A' c', e = .returned (.slice A' (ndB k b es).length c') ∧ St w (fun _ => False) w' [row kByte rfl 5 (.slice A' (ndB k b es).length c') (ndB k b es)] := by
  refine (nbytes_any w k b hb A c es hr hl).mono ?_
  rintro e w' ⟨v, rfl, h⟩
  obtain ⟨A', c', rfl, -, -⟩ := row_reads (h.get (.head _))
  exact ⟨A', c', rfl, h⟩
theorem ndOk_le {k : Int} {b : List UInt8} {es : List (Int × Int)} (h : ndOk k b es = true) : es.length ≤ 6 := by
  unfold ndOk at h
  split at h
  · have := of_decide_eq_true h; omega
  · split at h
    · simp only [Bool.and_eq_true, decide_eq_true_eq] at h
      exact h.1.2
    · cases h
def zQ : List UInt8 := List.replicate 256 0
theorem zQ_len : zQ.length = 256 := List.length_replicate
theorem zpg_eq : zpg = zQ.map bv := by unfold zpg zQ; rw [List.map_replicate]; rfl
/-- A node's page, and the error. -/
def lfP (k : Int) (b : List UInt8) (es : List (Int × Int)) : List UInt8 := if ndOk k b es then pdB (ndB k b es) else zQ
def lfE (k : Int) (b : List UInt8) (es : List (Int × Int)) : Int := if ndOk k b es then 0 else 81
theorem nd_fit (k : Int) {b : List UInt8} (hb : b.length = 16) {es : List (Int × Int)} (h : es.length ≤ 6) : (ndB k b es).length + 4 ≤ 256 := by
  have := ndB_le k hb es
  omega
theorem lfP_len (k : Int) {b : List UInt8} (hb : b.length = 16) (es : List (Int × Int)) : (lfP k b es).length = 256 := by
  unfold lfP
  split
  · rename_i h
    exact pdB_length (nd_fit k hb (ndOk_le h))
  · exact zQ_len
theorem lf_yes {k : Int} {b : List UInt8} {es : List (Int × Int)} (h : ndOk k b es = true) : lfP k b es = pdB (ndB k b es) ∧ lfE k b es = 0 := by unfold lfP lfE; rw [h]; exact ⟨rfl, rfl⟩
theorem lf_no {k : Int} {b : List UInt8} {es : List (Int × Int)} (h : ndOk k b es = false) : lfP k b es = zQ ∧ lfE k b es = 81 := by unfold lfP lfE; rw [h]; exact ⟨rfl, rfl⟩

set_option maxRecDepth 10000 in
set_option maxHeartbeats 2000000 in
theorem lpage_any (w : World) (k : Int) (b : List UInt8) (hb : b.length = 16) (A : Option Addr) (c : Nat) (es : List (Int × Int)) (hr : kEn.C w A es.length es) (hl : es.length ≤ 1000) : Calls Try.prog 23 #[.agg (Value.int .i64 k :: ((nums .u8 (b.map bv)) ++ ([Value.slice A es.length c]))).toArray] w fun e w' => e = .returned (.tuple #[.agg (nums .u8 ((lfP k b es).map bv)).toArray, .int .i64 (lfE k b es)]) ∧ Below w.heap.size w w' := by
  have HS := St.empty w
  rcases hok : ndOk k b es with _ | _
  · skip
    refine c_enter Try.func23 rfl 16 rfl (.agg (Value.int .i64 k :: ((nums .u8 (b.map bv)) ++ ([Value.slice A es.length c]))).toArray :: U8l3 (U4l3 (undef :: undef :: undef :: []))) rfl ?_
    refine wp_seq_k (fun K1 hK2 => ?_)
    refine c_region (fun ops4 hops3 => ?_)
    clear hops3
    refine St.wBox HS (cs := (Value.int .i64 k :: ((nums .u8 (b.map bv)) ++ ([Value.slice A es.length c])))) (.agg (Value.int .i64 k :: ((nums .u8 (b.map bv)) ++ ([Value.slice A es.length c]))).toArray) rfl rfl ?_
    clear HS
    intro g5 w6 hg7 HS
    refine St.wAlloc HS (cs := ((nums .u8 zpg))) (.agg ((nums .u8 zpg)).toArray) (by kernel_rfl) rfl ?_
    clear HS
    intro g8 w9 hg10 HS
    refine p_run (l' := _) _ (x_assign (.int .i64 0) rfl rfl) rfl ?_
    refine wpList_nil ?_
    refine hK2 _ _ ?_
    refine wp_seq_k (fun K11 hK12 => ?_)
    refine c_region (fun ops14 hops13 => ?_)
    clear hops13
    refine St.wAlloc HS (cs := ((nums .u8 zpg))) (.agg ((nums .u8 zpg)).toArray) (by kernel_rfl) rfl ?_
    clear HS
    intro g15 w16 hg17 HS
    refine wpList_nil ?_
    refine hK12 _ _ ?_
    refine wp_seq_k (fun K18 hK19 => ?_)
    refine wp_seq_k (fun K20 hK21 => ?_)
    refine c_region (fun ops23 hops22 => ?_)
    clear hops22
    refine p_run (l' := _) _ (x_loads (Value.int .i64 k :: ((nums .u8 (b.map bv)) ++ ([Value.slice A es.length c]))) 18 rfl rfl (bkCells (HS.get (.tail _ (.tail _ (.head _)))) 0 _ (whole _)) (by rfl) (by kernel_rfl) (by simp [List.length_map, hb, nums_length])) rfl ?_
    refine w_call [.agg (Value.int .i64 k :: ((nums .u8 (b.map bv)) ++ ([Value.slice A es.length c]))).toArray] Try.func28 (by kernel_rfl) (by rfl) rfl ?_
    refine (right_node _ k b hb A c es (Kd.C_below hr HS.belowOf) hl).mono ?_
    rintro e w24 ⟨he_, hb_⟩
    rw [hok] at he_
    subst he_
    replace HS := HS.here hb_
    clear hb_
    refine ⟨_, rfl, ?_⟩
    refine p_run (l' := _) _ (x_not false rfl rfl) rfl ?_
    refine wpList_nil ?_
    refine hK21 _ _ ?_
    refine c_true rfl ?_
    refine wp_seq_k (fun K25 hK26 => ?_)
    refine c_region (fun ops28 hops27 => ?_)
    clear hops27
    refine p_run (l' := _) _ (x_loads ((nums .u8 zpg)) 256 rfl rfl (bkCells (HS.get (.head _)) 0 _ (whole _)) (by rfl) (by kernel_rfl) (by simp [nums_length, zlen])) rfl ?_
    refine St.stores (cs' := ((nums .u8 zpg))) (HS.front 1 rfl) ((nums .u8 zpg)) 256 rfl rfl (nums_one _ _) (by kernel_rfl) (by simp [nums_length, zlen]) (by simp [nums_length, zlen]) (lay_all _ _ (by simp [nums_length, zlen])) ?_
    clear HS
    intro w29 HS
    refine p_run (l' := _) _ (x_assign (.int .i64 81) rfl rfl) rfl ?_
    refine wpList_nil ?_
    refine hK26 _ _ ?_
    refine wp_ret ?_
    try simp only [Exit.inBlock, Exit.then]
    refine c_ret (.tuple [.agg ((nums .u8 zpg)).toArray, .int .i64 81].toArray) (r_ct rfl rfl (run_loadVar_aggn (by rfl) ((nums .u8 zpg)) 256 (by kernel_rfl) (by simp [nums_length, zlen]) (bkCells (HS.get (.head _)) 0 _ (whole _))) rfl) ?_
    rw [(lf_no hok).1, (lf_no hok).2, ← zpg_eq]
    exact ⟨rfl, HS.belowOf⟩
  · skip
    have hfit := nd_fit k hb (ndOk_le hok)
    refine c_enter Try.func23 rfl 16 rfl (.agg (Value.int .i64 k :: ((nums .u8 (b.map bv)) ++ ([Value.slice A es.length c]))).toArray :: U8l3 (U4l3 (undef :: undef :: undef :: []))) rfl ?_
    refine wp_seq_k (fun K1 hK2 => ?_)
    refine c_region (fun ops4 hops3 => ?_)
    clear hops3
    refine St.wBox HS (cs := (Value.int .i64 k :: ((nums .u8 (b.map bv)) ++ ([Value.slice A es.length c])))) (.agg (Value.int .i64 k :: ((nums .u8 (b.map bv)) ++ ([Value.slice A es.length c]))).toArray) rfl rfl ?_
    clear HS
    intro g5 w6 hg7 HS
    refine St.wAlloc HS (cs := ((nums .u8 zpg))) (.agg ((nums .u8 zpg)).toArray) (by kernel_rfl) rfl ?_
    clear HS
    intro g8 w9 hg10 HS
    refine p_run (l' := _) _ (x_assign (.int .i64 0) rfl rfl) rfl ?_
    refine wpList_nil ?_
    refine hK2 _ _ ?_
    refine wp_seq_k (fun K11 hK12 => ?_)
    refine c_region (fun ops14 hops13 => ?_)
    clear hops13
    refine St.wAlloc HS (cs := ((nums .u8 zpg))) (.agg ((nums .u8 zpg)).toArray) (by kernel_rfl) rfl ?_
    clear HS
    intro g15 w16 hg17 HS
    refine wpList_nil ?_
    refine hK12 _ _ ?_
    refine wp_seq_k (fun K18 hK19 => ?_)
    refine wp_seq_k (fun K20 hK21 => ?_)
    refine c_region (fun ops23 hops22 => ?_)
    clear hops22
    refine p_run (l' := _) _ (x_loads (Value.int .i64 k :: ((nums .u8 (b.map bv)) ++ ([Value.slice A es.length c]))) 18 rfl rfl (bkCells (HS.get (.tail _ (.tail _ (.head _)))) 0 _ (whole _)) (by rfl) (by kernel_rfl) (by simp [List.length_map, hb, nums_length])) rfl ?_
    refine w_call [.agg (Value.int .i64 k :: ((nums .u8 (b.map bv)) ++ ([Value.slice A es.length c]))).toArray] Try.func28 (by kernel_rfl) (by rfl) rfl ?_
    refine (right_node _ k b hb A c es (Kd.C_below hr HS.belowOf) hl).mono ?_
    rintro e w24 ⟨he_, hb_⟩
    rw [hok] at he_
    subst he_
    replace HS := HS.here hb_
    clear hb_
    refine ⟨_, rfl, ?_⟩
    refine p_run (l' := _) _ (x_not true rfl rfl) rfl ?_
    refine wpList_nil ?_
    refine hK21 _ _ ?_
    refine c_false rfl ?_
    refine wp_skip ?_
    refine hK19 _ _ ?_
    refine wp_seq_k (fun K25 hK26 => ?_)
    refine free_frame (n := 6) (T := _) [0, 0, 2, 6, 14, 31] [(0, 9), (1, 10), (2, 11), (3, 12), (4, 13), (5, 14)] (fun bq_ vq_ w_ => qv ((fun i_ => match i_ with | 0 => some (.slice (some ⟨g15, 0, none⟩) 256 256) | 1 => some (.agg (Value.int .i64 k :: ((nums .u8 (b.map bv)) ++ ([Value.slice A es.length c]))).toArray) | _ => none) : Nat → Option Value) bq_ vq_ ∧ cond (bq_ 5) (∃ (oa29 : Option Addr) (nc30 : Nat) (g32 : Nat) (oa35 : Option Addr) (nc36 : Nat), vq_ 2 = .slice oa29 ((ndB k b es).length) nc30 ∧ vq_ 3 = .slice (some ⟨g32, 0, none⟩) 1 1 ∧ vq_ 4 = .slice oa35 ((ndB k b es).length + 4) nc36 ∧ vq_ 5 = .int .i64 ((nums .u8 ((sealB [(ndB k b es)].flatten).map bv)).length : Int) ∧ St w (fun _ => False) w_ ([blk g15 ((nums .u8 ((pdB (ndB k b es)).map bv))) 27, row kByte rfl 5 (.slice oa35 ((ndB k b es).length + 4) nc36) (sealB [(ndB k b es)].flatten), blk g32 [.slice oa29 ((ndB k b es).length) nc30] 65, row kByte rfl 5 (.slice oa29 ((ndB k b es).length) nc30) (ndB k b es), blk g8 ((nums .u8 zpg)) 27, blk g5 (Value.int .i64 k :: ((nums .u8 (b.map bv)) ++ ([Value.slice A es.length c]))) 52])) (cond (bq_ 4) (∃ (oa29 : Option Addr) (nc30 : Nat) (g32 : Nat) (oa35 : Option Addr) (nc36 : Nat), vq_ 2 = .slice oa29 ((ndB k b es).length) nc30 ∧ vq_ 3 = .slice (some ⟨g32, 0, none⟩) 1 1 ∧ vq_ 4 = .slice oa35 ((ndB k b es).length + 4) nc36 ∧ St w (fun _ => False) w_ ([row kByte rfl 5 (.slice oa35 ((ndB k b es).length + 4) nc36) (sealB [(ndB k b es)].flatten), blk g32 [.slice oa29 ((ndB k b es).length) nc30] 65, row kByte rfl 5 (.slice oa29 ((ndB k b es).length) nc30) (ndB k b es), blk g15 ((nums .u8 zpg)) 27, blk g8 ((nums .u8 zpg)) 27, blk g5 (Value.int .i64 k :: ((nums .u8 (b.map bv)) ++ ([Value.slice A es.length c]))) 52])) (cond (bq_ 3) (∃ (oa29 : Option Addr) (nc30 : Nat) (g32 : Nat), vq_ 2 = .slice oa29 ((ndB k b es).length) nc30 ∧ vq_ 3 = .slice (some ⟨g32, 0, none⟩) 1 1 ∧ St w (fun _ => False) w_ ([blk g32 [.slice oa29 ((ndB k b es).length) nc30] 65, row kByte rfl 5 (.slice oa29 ((ndB k b es).length) nc30) (ndB k b es), blk g15 ((nums .u8 zpg)) 27, blk g8 ((nums .u8 zpg)) 27, blk g5 (Value.int .i64 k :: ((nums .u8 (b.map bv)) ++ ([Value.slice A es.length c]))) 52])) (cond (bq_ 2) (∃ (oa29 : Option Addr) (nc30 : Nat), vq_ 2 = .slice oa29 ((ndB k b es).length) nc30 ∧ St w (fun _ => False) w_ ([row kByte rfl 5 (.slice oa29 ((ndB k b es).length) nc30) (ndB k b es), blk g15 ((nums .u8 zpg)) 27, blk g8 ((nums .u8 zpg)) 27, blk g5 (Value.int .i64 k :: ((nums .u8 (b.map bv)) ++ ([Value.slice A es.length c]))) 52])) ((St w (fun _ => False) w_ ([blk g15 ((nums .u8 zpg)) 27, blk g8 ((nums .u8 zpg)) 27, blk g5 (Value.int .i64 k :: ((nums .u8 (b.map bv)) ++ ([Value.slice A es.length c]))) 52]))))))) (by kernel_rfl) rfl rfl (by kernel_rfl) (by kernel_rfl) rfl (by kernel_rfl) (by kernel_rfl) ⟨qv_none, HS.draw⟩ ?_ ?_
    · clear HS
      intro i_ hi_ bq_ vq_ a_ w_ hG hb_ hon hoff hfr hel hval
      obtain ⟨hV, hE⟩ := hG
      have hi_ := List.mem_range.1 hi_
      obtain ⟨l_, rfl⟩ := hfr
      have hv_ := fun (j t : Nat) (v : Value) (h1 : (j, t) ∈ [(0, 9), (1, 10), (2, 11), (3, 12), (4, 13), (5, 14)]) h2 h3 => (hval (j, t) h1 h3).trans (congrArg some (hV j v h2 h3))
      have hcs : i_ = 0 ∨ i_ = 1 ∨ i_ = 2 ∨ i_ = 3 ∨ i_ = 4 ∨ i_ = 5 := by omega
      rcases hcs with rfl | rfl | rfl | rfl | rfl | rfl
      · have e4 : evl l_ (.tmp 4) = .pointer (some ⟨g15, 0, none⟩) := evl_of ((hel 4 (by decide)).trans rfl)
        exact ⟨_, rfl, fun K_ hK_ => q_op (.slice (some ⟨g15, 0, none⟩) 256 256) ((x_sliceArr (sz := 1) (L := none) (H := none) (lo := 0) (hi := 256) ⟨g15, 0, none⟩ rfl e4 Try.underlying27 (by kernel_rfl) rfl rfl (by omega) (by omega) (by first | rfl | (rw [if_neg (by omega), add_mk]; rfl))).trans rfl) (hK_ _ _ ⟨qv_up hV (fun _ h => Option.some.inj h), hE⟩)⟩
      · have hE0 := hE
        rw [show bq_ 5 = false from (hoff 5 (by decide))] at hE0
        rw [show bq_ 4 = false from (hoff 4 (by decide))] at hE0
        rw [show bq_ 3 = false from (hoff 3 (by decide))] at hE0
        rw [show bq_ 2 = false from (hoff 2 (by decide))] at hE0
        simp only [cond_true, cond_false] at hE0
        have HS := hE0
        have e1 : evl l_ (.tmp 1) = .pointer (some ⟨g5, 0, none⟩) := evl_of ((hel 1 (by decide)).trans rfl)
        exact ⟨_, rfl, fun K_ hK_ => q_op _ (x_loads (Value.int .i64 k :: ((nums .u8 (b.map bv)) ++ ([Value.slice A es.length c]))) 18 rfl e1 (bkCells (HS.get (.tail _ (.tail _ (.head _)))) 0 _ (whole _)) (by rfl) (by kernel_rfl) (by simp [List.length_map, hb, nums_length])) (hK_ _ _ ⟨qv_up hV (fun _ h => Option.some.inj h), hE⟩)⟩
      · have h10 : (fr l_).tmps[10]? = some (.agg (Value.int .i64 k :: ((nums .u8 (b.map bv)) ++ ([Value.slice A es.length c]))).toArray) := hv_ 1 10 _ (by decide) rfl (hon 1 (by decide))
        have hE0 := hE
        rw [show bq_ 5 = false from (hoff 5 (by decide))] at hE0
        rw [show bq_ 4 = false from (hoff 4 (by decide))] at hE0
        rw [show bq_ 3 = false from (hoff 3 (by decide))] at hE0
        rw [show bq_ 2 = false from hb_] at hE0
        simp only [cond_true, cond_false] at hE0
        have HS := hE0
        have e10 : evl l_ (.tmp 10) = .agg (Value.int .i64 k :: ((nums .u8 (b.map bv)) ++ ([Value.slice A es.length c]))).toArray := evl_of h10
        refine ⟨_, rfl, fun K_ hK_ => wp_of_list rfl ?_⟩
        intro ops_
        refine w_call [.agg (Value.int .i64 k :: ((nums .u8 (b.map bv)) ++ ([Value.slice A es.length c]))).toArray] Try.func37 (by kernel_rfl) (by rfl) (by simp only [List.map_cons, List.map_nil, e10] <;> rfl) ?_
        refine (nbytesS _ k b hb A c es (Kd.C_below hr HS.belowOf) hl).mono ?_
        rintro e w900203 ⟨oa900201, nc900202, rfl, hk_⟩
        replace HS := HS.more hk_
        clear hk_
        refine ⟨_, rfl, ?_⟩
        refine wpList_nil ?_
        refine norm_put (hK_ (.slice oa900201 ((ndB k b es).length) nc900202) _ ⟨qv_up hV (by intro _ h; cases h), ?_⟩)
        show cond (bq_ 5) _ _
        rw [show bq_ 5 = false from hoff 5 (by decide), cond_false]
        show cond (bq_ 4) _ _
        rw [show bq_ 4 = false from hoff 4 (by decide), cond_false]
        show cond (bq_ 3) _ _
        rw [show bq_ 3 = false from hoff 3 (by decide), cond_false]
        show cond true _ _
        rw [cond_true]
        exact ⟨oa900201, nc900202, rfl, ((((HS.front 3 rfl).front 3 rfl).front 3 rfl).front 3 rfl)⟩
      · have h11 := hval (2, 11) (by decide) (hon 2 (by decide))
        have hE0 := hE
        rw [show bq_ 5 = false from (hoff 5 (by decide))] at hE0
        rw [show bq_ 4 = false from (hoff 4 (by decide))] at hE0
        rw [show bq_ 3 = false from hb_] at hE0
        rw [show bq_ 2 = true from (hon 2 (by decide))] at hE0
        simp only [cond_true, cond_false] at hE0
        obtain ⟨oa29, nc30, hv2, HS⟩ := hE0
        rw [hv2] at h11
        have e11 : evl l_ (.tmp 11) = .slice oa29 ((ndB k b es).length) nc30 := evl_of h11
        refine ⟨_, rfl, fun K_ hK_ => wp_of_list rfl ?_⟩
        intro ops_
        refine St.wLit1 HS [.slice oa29 ((ndB k b es).length) nc30] 1 (.slice none 0 0) (.slice oa29 ((ndB k b es).length) nc30) Try.underlying93 (by kernel_rfl) (by decide) e11 rfl rfl ?_
        clear HS
        intro g900301 w900302 hg900303 HS
        refine wpList_nil ?_
        refine norm_put (hK_ (.slice (some ⟨g900301, 0, none⟩) 1 1) _ ⟨qv_up hV (by intro _ h; cases h), ?_⟩)
        show cond (bq_ 5) _ _
        rw [show bq_ 5 = false from hoff 5 (by decide), cond_false]
        show cond (bq_ 4) _ _
        rw [show bq_ 4 = false from hoff 4 (by decide), cond_false]
        show cond true _ _
        rw [cond_true]
        exact ⟨oa29, nc30, g900301, hv2, rfl, (((((HS.front 4 rfl).front 4 rfl).front 4 rfl).front 4 rfl).front 4 rfl)⟩
      · have h12 := hval (3, 12) (by decide) (hon 3 (by decide))
        have hE0 := hE
        rw [show bq_ 5 = false from (hoff 5 (by decide))] at hE0
        rw [show bq_ 4 = false from hb_] at hE0
        rw [show bq_ 3 = true from (hon 3 (by decide))] at hE0
        simp only [cond_true, cond_false] at hE0
        obtain ⟨oa29, nc30, g32, hv2, hv3, HS⟩ := hE0
        rw [hv3] at h12
        have e12 : evl l_ (.tmp 12) = .slice (some ⟨g32, 0, none⟩) 1 1 := evl_of h12
        refine ⟨_, rfl, fun K_ hK_ => wp_of_list rfl ?_⟩
        intro ops_
        refine w_call [.slice (some ⟨g32, 0, none⟩) 1 1] Try.func32 (by kernel_rfl) (by rfl) (by simp only [List.map_cons, List.map_nil, e12] <;> rfl) ?_
        refine (sealR_any HS _ 1 1 ((ndB k b es).length + 4) [(ndB k b es)] rfl (rds_one (HS.get (.head _)) (row_rd (HS.get (.tail _ (.head _)))).1 (row_rd (HS.get (.tail _ (.head _)))).2.1 (row_rd (HS.get (.tail _ (.head _)))).2.2) (by rw [sealB_length]; simp) (by omega)).mono ?_
        clear HS
        rintro e w900403 ⟨oa900401, nc900402, rfl, HS⟩
        refine ⟨_, rfl, ?_⟩
        refine wpList_nil ?_
        refine norm_put (hK_ (.slice oa900401 ((ndB k b es).length + 4) nc900402) _ ⟨qv_up hV (by intro _ h; cases h), ?_⟩)
        show cond (bq_ 5) _ _
        rw [show bq_ 5 = false from hoff 5 (by decide), cond_false]
        show cond true _ _
        rw [cond_true]
        exact ⟨oa29, nc30, g32, oa900401, nc900402, hv2, hv3, rfl, ((((((HS.front 5 rfl).front 5 rfl).front 5 rfl).front 5 rfl).front 5 rfl).front 5 rfl)⟩
      · have h9 : (fr l_).tmps[9]? = some (.slice (some ⟨g15, 0, none⟩) 256 256) := hv_ 0 9 _ (by decide) rfl (hon 0 (by decide))
        have h13 := hval (4, 13) (by decide) (hon 4 (by decide))
        have hE0 := hE
        rw [show bq_ 5 = false from hb_] at hE0
        rw [show bq_ 4 = true from (hon 4 (by decide))] at hE0
        simp only [cond_true, cond_false] at hE0
        obtain ⟨oa29, nc30, g32, oa35, nc36, hv2, hv3, hv4, HS⟩ := hE0
        rw [hv4] at h13
        have e9 : evl l_ (.tmp 9) = .slice (some ⟨g15, 0, none⟩) 256 256 := evl_of h9
        have e13 : evl l_ (.tmp 13) = .slice oa35 ((ndB k b es).length + 4) nc36 := evl_of h13
        refine ⟨_, rfl, fun K_ hK_ => wp_of_list rfl ?_⟩
        intro ops_
        refine St.wCopy (HS.front 3 rfl) Try.underlying65 (by kernel_rfl) e9 e13 (nums .u8 ((sealB [(ndB k b es)].flatten).map bv)) (by rw [nums_length, List.length_map, sealB_length, show ([(ndB k b es)].flatten : List UInt8) = (ndB k b es) from by simp]; exact (Nat.min_eq_left hfit).symm) (rd_cells (row_rd (HS.get (.head _))).2.2) (by rw [nums_length, List.length_map, sealB_length, nums_length, zlen, show ([(ndB k b es)].flatten : List UInt8) = (ndB k b es) from by simp]; omega) (nums_one _ _) (pd_lay hfit) ?_
        clear HS
        intro w900501 HS
        rw [fr_put]
        refine wpList_nil ?_
        refine norm_put (hK_ (.int .i64 ((nums .u8 ((sealB [(ndB k b es)].flatten).map bv)).length : Int)) _ ⟨qv_up hV (by intro _ h; cases h), ?_⟩)
        show cond true _ _
        rw [cond_true]
        exact ⟨oa29, nc30, g32, oa35, nc36, hv2, hv3, hv4, rfl, ((((((HS.front 5 rfl).front 5 rfl).front 5 rfl).front 5 rfl).front 5 rfl).front 5 rfl)⟩
    intro bq_ vq_ w_ hall hG
    obtain ⟨hV, hE⟩ := hG
    clear HS
    rw [show bq_ 5 = true from hall 5 (by decide)] at hE
    simp only [cond_true] at hE
    obtain ⟨oa29, nc30, g32, oa35, nc36, hv2, hv3, hv4, hv5, HS⟩ := hE
    have hv0 := hV 0 _ rfl (hall 0 (by decide))
    have hv1 := hV 1 _ rfl (hall 1 (by decide))
    clear hV hall
    rw [putSel_fr]
    simp only [tells, List.map_cons, List.map_nil, setAll, List.set_cons_succ, List.set_cons_zero, hv0, hv1, hv2, hv3, hv4, hv5]
    clear hv0 hv1 hv2 hv3 hv4 hv5
    generalize w_ = w900502 at HS ⊢
    refine fr_at (l' := (.agg (Value.int .i64 k :: ((nums .u8 (b.map bv)) ++ ([Value.slice A es.length c]))).toArray :: .pointer (some ⟨g5, 0, none⟩) :: .pointer (some ⟨g8, 0, none⟩) :: .int .i64 0 :: .pointer (some ⟨g15, 0, none⟩) :: .agg (Value.int .i64 k :: ((nums .u8 (b.map bv)) ++ ([Value.slice A es.length c]))).toArray :: .bool true :: .bool false :: undef :: .slice (some ⟨g15, 0, none⟩) 256 256 :: .agg (Value.int .i64 k :: ((nums .u8 (b.map bv)) ++ ([Value.slice A es.length c]))).toArray :: .slice oa29 ((ndB k b es).length) nc30 :: .slice (some ⟨g32, 0, none⟩) 1 1 :: .slice oa35 ((ndB k b es).length + 4) nc36 :: .int .i64 ((nums .u8 ((sealB [(ndB k b es)].flatten).map bv)).length : Int) :: undef :: [])) rfl ?_
    refine hK26 _ _ ?_
    refine wp_seq_k (fun K900503 hK900504 => ?_)
    refine c_region (fun ops900506 hops900505 => ?_)
    clear hops900505
    refine p_run (l' := _) _ (x_loads ((nums .u8 ((pdB (ndB k b es)).map bv))) 256 rfl rfl (bkCells (HS.get (.head _)) 0 _ (whole _)) (by rfl) (by kernel_rfl) (by simp [List.length_map, nums_length, pdB_length hfit])) rfl ?_
    refine St.stores (cs' := ((nums .u8 ((pdB (ndB k b es)).map bv)))) (HS.front 4 rfl) ((nums .u8 ((pdB (ndB k b es)).map bv))) 256 rfl rfl (nums_one _ _) (by kernel_rfl) (by simp [List.length_map, nums_length, pdB_length hfit]) (by simp [List.length_map, nums_length, pdB_length hfit, zlen]) (lay_all _ _ (by simp [List.length_map, nums_length, pdB_length hfit, zlen])) ?_
    clear HS
    intro w900507 HS
    refine p_run (l' := _) _ (x_assign (.int .i64 0) rfl rfl) rfl ?_
    refine wpList_nil ?_
    refine hK900504 _ _ ?_
    refine wp_ret ?_
    try simp only [Exit.inBlock, Exit.then]
    refine c_ret (.tuple [.agg ((nums .u8 ((pdB (ndB k b es)).map bv))).toArray, .int .i64 0].toArray) (r_ct rfl rfl (run_loadVar_aggn (by rfl) ((nums .u8 ((pdB (ndB k b es)).map bv))) 256 (by kernel_rfl) (by simp [List.length_map, nums_length, pdB_length hfit]) (bkCells (HS.get (.head _)) 0 _ (whole _))) rfl) ?_
    rw [(lf_yes hok).1, (lf_yes hok).2]
    exact ⟨rfl, HS.belowOf⟩
end Go.Proofs.Ytiokdpnhaemciaa
