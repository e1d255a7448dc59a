/- same: the disk's pending places and the document's. -/
import Derived.Test.YtjholgfaipfmbaaRlP
set_option linter.unusedVariables false
set_option linter.unusedSimpArgs false
namespace Go.Proofs.Ytjholgfaipfmbaa
open Go.RowKit Go.Proofs.YtjholgfaipfmbaaW.PrintWords Go.Proofs.YtjholgfaipfmbaaW.PrintLast
section
variable {w0 W : World} {F : Nat → Prop} {L : List Res} {v vp : Value} {l : List (Int × List Int)}
theorem in_some {w : World} {A : Option Addr} {n c e j : Nat} {xs : List Int} {hE : (Kd.int .i64).E = []} (h : (row (Kd.int .i64) hE e (.slice A n c) xs).holds w) (hj : j < xs.length) : ∃ ad, A = some ad := by
  obtain ⟨ad, e, -⟩ := (row_C h).2.2.2.2 (by have := (row_C h).2.2.1; omega)
  exact ⟨ad, e⟩
theorem in_cell {w : World} {ad : Addr} {n c e j : Nat} {x : Int} {xs : List Int} {hE : (Kd.int .i64).E = []} (h : (row (Kd.int .i64) hE e (.slice (some ad) n c) xs).holds w) (hx : xs[j]? = some x) : w.cell? (ad.add (j * 1)) = some (.int .i64 x) := by
  have hC := (row_C h).2.2
  obtain ⟨ad', e, hc⟩ := hC.2.2 (by have := hC.1; have := (List.getElem?_eq_some_iff.1 hx).1; omega)
  obtain rfl := Option.some.inj e
  obtain ⟨cs, hs, hr, hcell⟩ := hc j _ hx
  exact hcell 0 (.int .i64 x) (by rw [show cs = [.int .i64 x] from hr]; rfl)
theorem wr_cell {w : World} {ap : Addr} {n c e j : Nat} {x : Int × List Int} {xs : List (Int × List Int)} {hE : kWr.E = []} (h : (row kWr hE e (.slice (some ap) n c) xs).holds w) (hx : xs[j]? = some x) : w.cell? ((ap.add (j * 257)).add 0) = some (.int .i64 x.1) := by
  have hj := (List.getElem?_eq_some_iff.1 hx).1
  obtain ⟨ad, y, e, hy, -, hc⟩ := wr_get (row_C h).2.2 j hj
  obtain rfl := Option.some.inj e
  obtain rfl := Option.some.inj (hy.symm.trans hx)
  exact hc 0 _ rfl

set_option maxRecDepth 10000 in
theorem dsame_any (HS : St w0 F W (row (Kd.int .i64) rfl 3 v (l.map (·.1)) :: row kWr rfl 74 vp l :: L)) (hl : l.length ≤ 1000) : Calls Try.prog 29 #[v, vp] W fun e w' => e = .returned (.bool true) ∧ St w0 F w' (row (Kd.int .i64) rfl 3 v (l.map (·.1)) :: row kWr rfl 74 vp l :: L) := by
  obtain ⟨A, c, hv, hc, -⟩ := row_reads (HS.get (.head _))
  rw [List.length_map] at hv hc
  subst hv
  obtain ⟨Ap, cp, hvp, hcp, -⟩ := row_reads (HS.get (.tail _ (.head _)))
  subst hvp
  · skip
    refine c_enter Try.func29 rfl 27 rfl [.slice A l.length c, .slice Ap l.length cp, undef, undef, undef, undef, undef, undef, undef, undef, undef, undef, undef, undef, undef, undef, undef, undef, undef, undef, undef, undef, undef, undef, undef, undef, undef] rfl ?_
    refine wp_seq_k (fun K1 hK2 => ?_)
    refine c_region (fun ops4 hops3 => ?_)
    clear hops3
    refine p_run (l' := _) _ (x_assign (.bool false) rfl rfl) rfl ?_
    refine wpList_nil ?_
    refine fr_at (l' := [.slice A l.length c, .slice Ap l.length cp, undef, undef, .bool false, undef, undef, undef, undef, undef, undef, undef, undef, undef, undef, undef, undef, undef, undef, undef, undef, undef, undef, undef, undef, undef, undef]) rfl ?_
    refine hK2 _ _ ?_
    refine wp_seq_k (fun K5 hK6 => ?_)
    refine wp_seq_k (fun K7 hK8 => ?_)
    refine c_region (fun ops10 hops9 => ?_)
    clear hops9
    refine p_run (l' := _) _ (x_move (.slice A l.length c) rfl rfl) rfl ?_
    refine p_run (l' := _) _ (x_len rfl rfl Try.underlying39) rfl ?_
    refine p_run (l' := _) _ (x_move (.slice Ap l.length cp) rfl rfl) rfl ?_
    refine p_run (l' := [.slice A l.length c, .slice Ap l.length cp, undef, undef, .bool false, undef, .slice A l.length c, .int .i64 (l.length : Int), .slice Ap l.length cp, .int .i64 (l.length : Int), undef, undef, undef, undef, undef, undef, undef, undef, undef, undef, undef, undef, undef, undef, undef, undef, undef]) _ (x_len rfl rfl Try.underlying49) rfl ?_
    refine p_run (l' := _) _ (x_cmp (k := .i64) (m := (l.length : Int)) (n := (l.length : Int)) .neq false rfl rfl rfl (by unfold cmpB; simp) rfl) rfl ?_
    refine wpList_nil ?_
    refine fr_at (l' := [.slice A l.length c, .slice Ap l.length cp, undef, undef, .bool false, undef, .slice A l.length c, .int .i64 (l.length : Int), .slice Ap l.length cp, .int .i64 (l.length : Int), .bool false, undef, undef, undef, undef, undef, undef, undef, undef, undef, undef, undef, undef, undef, undef, undef, undef]) rfl ?_
    refine hK8 _ _ ?_
    refine c_false rfl ?_
    refine wp_skip ?_
    refine hK6 _ _ ?_
    refine wp_seq_k (fun K11 hK12 => ?_)
    refine wp_seq_k (fun K13 hK14 => ?_)
    refine c_region (fun ops16 hops15 => ?_)
    clear hops15
    refine p_run (l' := _) _ (x_move (.slice A l.length c) rfl rfl) rfl ?_
    refine p_run (l' := _) _ (x_len rfl rfl Try.underlying39) rfl ?_
    refine p_run (l' := _) _ (x_move (.int .i64 0) rfl rfl) rfl ?_
    refine wpList_nil ?_
    refine fr_at (l' := [.slice A l.length c, .slice Ap l.length cp, undef, undef, .bool false, undef, .slice A l.length c, .int .i64 (l.length : Int), .slice Ap l.length cp, .int .i64 (l.length : Int), .bool false, .slice A l.length c, .int .i64 (l.length : Int), .int .i64 0, undef, undef, undef, undef, undef, undef, undef, undef, undef, undef, undef, undef, undef]) rfl ?_
    refine hK14 _ _ ?_
    refine wp_block ?_
    refine c_loop (ι := Nat) (fun i_ a_ w_ => match i_ with | k => ∃ (u4 : Value) (u5 : Value) (u14 : Value) (u15 : Value) (u16 : Value) (u17 : Value) (u18 : Value) (u19 : Value) (u20 : Value) (u21 : Value) (u22 : Value) (u23 : Value) (u24 : Value) (u25 : Value) (u26 : Value), a_ = fr [.slice A l.length c, .slice Ap l.length cp, undef, undef, u4, u5, .slice A l.length c, .int .i64 (l.length : Int), .slice Ap l.length cp, .int .i64 (l.length : Int), .bool false, .slice A l.length c, .int .i64 (l.length : Int), .int .i64 (k : Int), u14, u15, u16, u17, u18, u19, u20, u21, u22, u23, u24, u25, u26] ∧ St w0 F w_ (row (Kd.int .i64) rfl 3 (.slice A l.length c) (l.map (·.1)) :: row kWr rfl 74 (.slice Ap l.length cp) l :: L) ∧ (k ≤ l.length)) (fun i_ => match i_ with | k => l.length - k) 0 ?_ ?_
    · exact ⟨_, _, _, _, _, _, _, _, _, _, _, _, _, _, _, rfl, ((HS.front 1 rfl).front 1 rfl), Nat.zero_le _⟩
    · clear HS
      rintro k a_ w19 ⟨u4, u5, u14, u15, u16, u17, u18, u19, u20, u21, u22, u23, u24, u25, u26, rfl, HS, hI⟩ J17 hJ18
      have hkl := hI
      refine wp_seq_k (fun K20 hK21 => ?_)
      refine c_region (fun ops23 hops22 => ?_)
      clear hops22
      refine p_run (l' := _) _ (x_cmp (k := .i64) (m := (k : Int)) (n := (l.length : Int)) .lss (decide ((k : Int) < (l.length : Int))) rfl rfl rfl rfl rfl) rfl ?_
      refine wpList_nil ?_
      refine fr_at (l' := [.slice A l.length c, .slice Ap l.length cp, undef, undef, u4, u5, .slice A l.length c, .int .i64 (l.length : Int), .slice Ap l.length cp, .int .i64 (l.length : Int), .bool false, .slice A l.length c, .int .i64 (l.length : Int), .int .i64 (k : Int), .bool (decide ((k : Int) < (l.length : Int))), u15, u16, u17, u18, u19, u20, u21, u22, u23, u24, u25, u26]) rfl ?_
      refine hK21 _ _ ?_
      refine wp_seq_k (fun K24 hK25 => ?_)
      refine c_cond (t := decide ((k : Int) < (l.length : Int))) rfl (fun hc26 => ?_) (fun hc26 => ?_)
      · have hlt : k < l.length := by have := of_decide_eq_true hc26; omega
        obtain ⟨x, hx⟩ : ∃ x, l[k]? = some x := ⟨_, List.getElem?_eq_getElem hlt⟩
        have hx1 : (l.map (·.1))[k]? = some x.1 := by rw [List.getElem?_map, hx]; rfl
        obtain ⟨ad, rfl⟩ := in_some (HS.get (.head _)) (j := k) (by rw [List.length_map]; exact hlt)
        obtain ⟨ap, y_, rfl, -⟩ := wr_get (row_C (HS.get (.tail _ (.head _)))).2.2 k hlt
        refine wp_skip ?_
        refine hK25 _ _ ?_
        refine wp_seq_k (fun K27 hK28 => ?_)
        refine wp_block ?_
        refine wp_seq_k (fun K29 hK30 => ?_)
        refine c_region (fun ops32 hops31 => ?_)
        clear hops31
        refine p_run (l' := _) _ (x_move (.int .i64 (k : Int)) rfl rfl) rfl ?_
        refine p_run (l' := _) _ (x_assign (.int .i64 (k : Int)) rfl rfl) rfl ?_
        refine wpList_nil ?_
        refine fr_at (l' := [.slice (some ad) l.length c, .slice (some ap) l.length cp, undef, undef, u4, .int .i64 (k : Int), .slice (some ad) l.length c, .int .i64 (l.length : Int), .slice (some ap) l.length cp, .int .i64 (l.length : Int), .bool false, .slice (some ad) l.length c, .int .i64 (l.length : Int), .int .i64 (k : Int), .bool (decide ((k : Int) < (l.length : Int))), .int .i64 (k : Int), u16, u17, u18, u19, u20, u21, u22, u23, u24, u25, u26]) rfl ?_
        refine hK30 _ _ ?_
        refine wp_seq_k (fun K33 hK34 => ?_)
        refine free_frame (n := 10) (T := _) [0, 0, 3, 7, 0, 0, 48, 112, 240, 511] [(0, 16), (1, 17), (2, 18), (3, 19), (4, 20), (5, 21), (6, 22), (7, 23), (8, 24), (9, 25)] (fun bq_ vq_ w_ => qv ((fun i_ => match i_ with | 0 => some (.slice (some ad) l.length c) | 1 => some (.int .i64 (k : Int)) | 2 => some (.pointer (some ((ad).add (k * 1)))) | 3 => some (.int .i64 x.1) | 4 => some (.slice (some ap) l.length cp) | 5 => some (.int .i64 (k : Int)) | 6 => some (.pointer (some ((ap).add (k * 257)))) | 7 => some (.pointer (some (((ap).add (k * 257)).add 0))) | 8 => some (.int .i64 x.1) | 9 => some (.bool false) | _ => none) : Nat → Option Value) bq_ vq_ ∧ (St w0 F w_ (row (Kd.int .i64) rfl 3 (.slice (some ad) l.length c) (l.map (·.1)) :: row kWr rfl 74 (.slice (some ap) l.length cp) l :: L))) (by kernel_rfl) rfl rfl (by kernel_rfl) (by kernel_rfl) rfl (by kernel_rfl) (by kernel_rfl) ⟨qv_none, HS.draw⟩ ?_ ?_
        · clear HS
          intro i_ hi_ bq_ vq_ a_ w_ hG hb_ hon hoff hfr hel hval
          obtain ⟨hV, hE⟩ := hG
          have hi_ := List.mem_range.1 hi_
          obtain ⟨l_, rfl⟩ := hfr
          have hv_ := fun (j t : Nat) (v : Value) (h1 : (j, t) ∈ [(0, 16), (1, 17), (2, 18), (3, 19), (4, 20), (5, 21), (6, 22), (7, 23), (8, 24), (9, 25)]) h2 h3 => (hval (j, t) h1 h3).trans (congrArg some (hV j v h2 h3))
          have hcs : i_ = 0 ∨ i_ = 1 ∨ i_ = 2 ∨ i_ = 3 ∨ i_ = 4 ∨ i_ = 5 ∨ i_ = 6 ∨ i_ = 7 ∨ i_ = 8 ∨ i_ = 9 := by omega
          rcases hcs with rfl | rfl | rfl | rfl | rfl | rfl | rfl | rfl | rfl | rfl
          · have e0 : evl l_ (.tmp 0) = .slice (some ad) l.length c := evl_of ((hel 0 (by decide)).trans rfl)
            exact ⟨_, rfl, fun K_ hK_ => q_op _ (x_move (.slice (some ad) l.length c) rfl e0) (hK_ _ _ ⟨qv_up hV (fun _ h => Option.some.inj h), hE⟩)⟩
          · have e5 : evl l_ (.tmp 5) = .int .i64 (k : Int) := evl_of ((hel 5 (by decide)).trans rfl)
            exact ⟨_, rfl, fun K_ hK_ => q_op _ (x_move (.int .i64 (k : Int)) rfl e5) (hK_ _ _ ⟨qv_up hV (fun _ h => Option.some.inj h), hE⟩)⟩
          · have e16 : evl l_ (.tmp 16) = .slice (some ad) l.length c := evl_of (hv_ 0 16 _ (by decide) rfl (hon 0 (by decide)))
            have e17 : evl l_ (.tmp 17) = .int .i64 (k : Int) := evl_of (hv_ 1 17 _ (by decide) rfl (hon 1 (by decide)))
            exact ⟨_, rfl, fun K_ hK_ => q_op _ (x_index (A := ad) (j := k * 1) (sz := 1) rfl e16 e17 Try.underlying39 (by kernel_rfl) (by omega) rfl) (hK_ _ _ ⟨qv_up hV (fun _ h => Option.some.inj h), hE⟩)⟩
          · have hE0 := hE
            have HS := hE0
            have e18 : evl l_ (.tmp 18) = .pointer (some ((ad).add (k * 1))) := evl_of (hv_ 2 18 _ (by decide) rfl (hon 2 (by decide)))
            exact ⟨_, rfl, fun K_ hK_ => q_op _ (x_load (.int .i64 x.1) rfl e18 (in_cell (HS.get (.head _)) hx1) (by rfl)) (hK_ _ _ ⟨qv_up hV (fun _ h => Option.some.inj h), hE⟩)⟩
          · have e1 : evl l_ (.tmp 1) = .slice (some ap) l.length cp := evl_of ((hel 1 (by decide)).trans rfl)
            exact ⟨_, rfl, fun K_ hK_ => q_op _ (x_move (.slice (some ap) l.length cp) rfl e1) (hK_ _ _ ⟨qv_up hV (fun _ h => Option.some.inj h), hE⟩)⟩
          · have e5 : evl l_ (.tmp 5) = .int .i64 (k : Int) := evl_of ((hel 5 (by decide)).trans rfl)
            exact ⟨_, rfl, fun K_ hK_ => q_op _ (x_move (.int .i64 (k : Int)) rfl e5) (hK_ _ _ ⟨qv_up hV (fun _ h => Option.some.inj h), hE⟩)⟩
          · have e20 : evl l_ (.tmp 20) = .slice (some ap) l.length cp := evl_of (hv_ 4 20 _ (by decide) rfl (hon 4 (by decide)))
            have e21 : evl l_ (.tmp 21) = .int .i64 (k : Int) := evl_of (hv_ 5 21 _ (by decide) rfl (hon 5 (by decide)))
            exact ⟨_, rfl, fun K_ hK_ => q_op _ (x_index (A := ap) (j := k * 257) (sz := 257) rfl e20 e21 Try.underlying49 (by kernel_rfl) (by omega) rfl) (hK_ _ _ ⟨qv_up hV (fun _ h => Option.some.inj h), hE⟩)⟩
          · have e22 : evl l_ (.tmp 22) = .pointer (some ((ap).add (k * 257))) := evl_of (hv_ 6 22 _ (by decide) rfl (hon 6 (by decide)))
            exact ⟨_, rfl, fun K_ hK_ => q_op _ (x_fieldA _ _ rfl e22 Try.underlying74 rfl (by rfl)) (hK_ _ _ ⟨qv_up hV (fun _ h => Option.some.inj h), hE⟩)⟩
          · have hE0 := hE
            have HS := hE0
            have e23 : evl l_ (.tmp 23) = .pointer (some (((ap).add (k * 257)).add 0)) := evl_of (hv_ 7 23 _ (by decide) rfl (hon 7 (by decide)))
            exact ⟨_, rfl, fun K_ hK_ => q_op _ (x_load (.int .i64 x.1) rfl e23 (wr_cell (HS.get (.tail _ (.head _))) hx) (by rfl)) (hK_ _ _ ⟨qv_up hV (fun _ h => Option.some.inj h), hE⟩)⟩
          · have e19 : evl l_ (.tmp 19) = .int .i64 x.1 := evl_of (hv_ 3 19 _ (by decide) rfl (hon 3 (by decide)))
            have e24 : evl l_ (.tmp 24) = .int .i64 x.1 := evl_of (hv_ 8 24 _ (by decide) rfl (hon 8 (by decide)))
            exact ⟨_, rfl, fun K_ hK_ => q_op _ (x_cmp (k := .i64) (m := x.1) (n := x.1) .neq false rfl e19 e24 (by unfold cmpB; simp) rfl) (hK_ _ _ ⟨qv_up hV (fun _ h => Option.some.inj h), hE⟩)⟩
        intro bq_ vq_ w_ hall hG
        obtain ⟨hV, hE⟩ := hG
        clear HS
        have HS := hE
        have hv0 := hV 0 _ rfl (hall 0 (by decide))
        have hv1 := hV 1 _ rfl (hall 1 (by decide))
        have hv2 := hV 2 _ rfl (hall 2 (by decide))
        have hv3 := hV 3 _ rfl (hall 3 (by decide))
        have hv4 := hV 4 _ rfl (hall 4 (by decide))
        have hv5 := hV 5 _ rfl (hall 5 (by decide))
        have hv6 := hV 6 _ rfl (hall 6 (by decide))
        have hv7 := hV 7 _ rfl (hall 7 (by decide))
        have hv8 := hV 8 _ rfl (hall 8 (by decide))
        have hv9 := hV 9 _ rfl (hall 9 (by decide))
        clear hV hall
        rw [putSel_fr]
        simp only [tells, List.map_cons, List.map_nil, setAll, List.set_cons_succ, List.set_cons_zero, hv0, hv1, hv2, hv3, hv4, hv5, hv6, hv7, hv8, hv9]
        clear hv0 hv1 hv2 hv3 hv4 hv5 hv6 hv7 hv8 hv9
        generalize w_ = w900801 at HS ⊢
        refine fr_at (l' := [.slice (some ad) l.length c, .slice (some ap) l.length cp, undef, undef, u4, .int .i64 (k : Int), .slice (some ad) l.length c, .int .i64 (l.length : Int), .slice (some ap) l.length cp, .int .i64 (l.length : Int), .bool false, .slice (some ad) l.length c, .int .i64 (l.length : Int), .int .i64 (k : Int), .bool (decide ((k : Int) < (l.length : Int))), .int .i64 (k : Int), .slice (some ad) l.length c, .int .i64 (k : Int), .pointer (some ((ad).add (k * 1))), .int .i64 x.1, .slice (some ap) l.length cp, .int .i64 (k : Int), .pointer (some ((ap).add (k * 257))), .pointer (some (((ap).add (k * 257)).add 0)), .int .i64 x.1, .bool false, u26]) rfl ?_
        refine hK34 _ _ ?_
        refine c_false rfl ?_
        refine wp_skip ?_
        refine hK28 _ _ ?_
        refine c_region (fun ops900803 hops900802 => ?_)
        clear hops900802
        refine p_run (l' := _) _ (x_arith (k := .i64) (m := (k : Int)) (n := 1) .add (((k + 1 : Nat) : Int)) rfl rfl rfl (show IntKind.i64.wrap ((k : Int) + 1) = ((k + 1 : Nat) : Int) from ((wr64 (by omega)).trans (by omega))) rfl) rfl ?_
        refine p_run (l' := _) _ (x_move (.int .i64 ((k + 1 : Nat) : Int)) rfl rfl) rfl ?_
        refine wpList_nil ?_
        refine fr_at (l' := [.slice (some ad) l.length c, .slice (some ap) l.length cp, undef, undef, u4, .int .i64 (k : Int), .slice (some ad) l.length c, .int .i64 (l.length : Int), .slice (some ap) l.length cp, .int .i64 (l.length : Int), .bool false, .slice (some ad) l.length c, .int .i64 (l.length : Int), .int .i64 ((k + 1 : Nat) : Int), .bool (decide ((k : Int) < (l.length : Int))), .int .i64 (k : Int), .slice (some ad) l.length c, .int .i64 (k : Int), .pointer (some ((ad).add (k * 1))), .int .i64 x.1, .slice (some ap) l.length cp, .int .i64 (k : Int), .pointer (some ((ap).add (k * 257))), .pointer (some (((ap).add (k * 257)).add 0)), .int .i64 x.1, .bool false, .int .i64 ((k + 1 : Nat) : Int)]) rfl ?_
        refine hJ18 (k + 1) _ _ ?_ ?_
        · show l.length - (k + 1) < l.length - k; omega
        · exact ⟨_, _, _, _, _, _, _, _, _, _, _, _, _, _, _, rfl, ((HS.front 1 rfl).front 1 rfl), (by omega)⟩
      · refine wp_exit ?_
        refine hK12 _ _ ?_
        refine wp_seq_k (fun K900804 hK900805 => ?_)
        refine c_region (fun ops900807 hops900806 => ?_)
        clear hops900806
        refine p_run (l' := _) _ (x_assign (.bool true) rfl rfl) rfl ?_
        refine wpList_nil ?_
        refine fr_at (l' := [.slice A l.length c, .slice Ap l.length cp, undef, undef, .bool true, u5, .slice A l.length c, .int .i64 (l.length : Int), .slice Ap l.length cp, .int .i64 (l.length : Int), .bool false, .slice A l.length c, .int .i64 (l.length : Int), .int .i64 (k : Int), .bool (decide ((k : Int) < (l.length : Int))), u15, u16, u17, u18, u19, u20, u21, u22, u23, u24, u25, u26]) rfl ?_
        refine hK900805 _ _ ?_
        refine wp_ret ?_
        try simp only [Exit.inBlock, Exit.then]
        refine c_ret (.bool true) (r_tmp rfl rfl) ?_
        exact ⟨rfl, ((HS.front 1 rfl).front 1 rfl)⟩
end
end Go.Proofs.Ytjholgfaipfmbaa
