/- Package leaf: Same. -/
import Derived.Test.YtiokdpnhaemciaaLeaf2
set_option linter.unusedVariables false
set_option linter.unusedSimpArgs false
namespace Go.Proofs.Ytiokdpnhaemciaa
open Go.RowKit Go.Proofs.YtiokdpnhaemciaaW.PrintWords Go.Proofs.YtiokdpnhaemciaaW.PrintLast Crc
theorem part_at {P : Program} {w : World} {e o : Nat} {cs : Array Value} {u : Value} (hna : oneT P e = true) (h : cs[o]? = some u) : (part e cs o).run P w = .ok u w := by
  simp only [part, Sem.run_bind, run_oneT hna, Result.andThen_ok, h]
  simp
theorem equal_en (w : World) (x y : Int × Int) : (Op.equal 62 (.agg [Value.int .i64 x.1, Value.int .i64 x.2].toArray) (.agg [Value.int .i64 y.1, Value.int .i64 y.2].toArray)).run Try.prog w = .ok (decide (x = y)) w := by
  have key : ∀ fs : List Field, (fs.map fun f => (f.name == "_", f.type, f.offset)) = [(false, 3, 0), (false, 3, 1)] → (Op.eqFields 9999 [Value.int .i64 x.1, Value.int .i64 x.2].toArray [Value.int .i64 y.1, Value.int .i64 y.2].toArray fs).run Try.prog w = .ok (decide (x = y)) w := by
    intro fs h
    rcases fs with _ | ⟨f, _ | ⟨g, _ | ⟨f3, fs⟩⟩⟩
    · simp at h
    · simp at h
    · simp only [List.map_cons, List.map_nil, List.cons.injEq, Prod.mk.injEq, and_true] at h
      obtain ⟨⟨n1, t1, o1⟩, n2, t2, o2⟩ := h
      have m1 : f.name ≠ "_" := by simpa using n1
      have m2 : g.name ≠ "_" := by simpa using n2
      have hna : oneT Try.prog 3 = true := by kernel_rfl
      have he : ∀ a b : Int, (Op.equalIn 9999 3 (.int .i64 a) (.int .i64 b)).run Try.prog w = .ok (a == b) w := fun a b => run_equalIn_int w 9998 3 .i64 .i64 a b Try.underlying3
      have p1 : ∀ a b : Int, (part 3 #[Value.int .i64 a, Value.int .i64 b] 0).run Try.prog w = .ok (.int .i64 a) w := fun a b => part_at hna rfl
      have p2 : ∀ a b : Int, (part 3 #[Value.int .i64 a, Value.int .i64 b] 1).run Try.prog w = .ok (.int .i64 b) w := fun a b => part_at hna rfl
      obtain ⟨a, b⟩ := x
      obtain ⟨c, d⟩ := y
      show (Op.eqFields 9999 #[Value.int .i64 a, Value.int .i64 b] #[Value.int .i64 c, Value.int .i64 d] [f, g]).run Try.prog w = _
      simp only [Op.eqFields, if_pos m1, if_pos m2, t1, o1, t2, o2, Sem.run_bind, p1, p2, Result.andThen_ok, he]
      by_cases h1 : a = c
      · have b1 : (a == c) = true := by simpa using h1
        simp only [b1, Bool.not_true, Bool.false_eq_true, if_false, Sem.run_bind, p2, Result.andThen_ok, he]
        by_cases h2 : b = d
        · simp [h1, h2]
        · simp [h1, h2]
      · have b1 : (a == c) = false := by simpa using h1
        simp [b1, h1]
    · simp at h
  show (Op.equalIn (9999 + 1) 62 _ _).run Try.prog w = _
  rw [run_equalIn_struct w 9999 62 _ _ (by kernel_rfl) (by kernel_rfl)]
  exact key _ (by kernel_rfl)

theorem take_snoc {es fs : List (Int × Int)} {j : Nat} {x y : Int × Int} (h : es.take j = fs.take j) (hx : es[j]? = some x) (hy : fs[j]? = some y) (he : x = y) : es.take (j + 1) = fs.take (j + 1) := by
  subst he
  obtain ⟨h1, e1⟩ := List.getElem?_eq_some_iff.1 hx
  obtain ⟨h2, e2⟩ := List.getElem?_eq_some_iff.1 hy
  rw [List.take_succ_eq_append_getElem h1, List.take_succ_eq_append_getElem h2, h, e1, e2]
theorem en_both {w : World} {ad : Addr} {n : Nat} {es : List (Int × Int)} {j : Nat} {x : Int × Int} (h : kEn.C w (some ad) n es) (hx : es[j]? = some x) : ∀ i u, ([.int .i64 x.1, .int .i64 x.2] : List Value)[i]? = some u → w.cell? ((ad.add (j * 2)).add i) = some u := by
  obtain ⟨ad', x', e, hx', hc⟩ := en_get h j (List.getElem?_eq_some_iff.1 hx).1
  injection e with e
  subst e
  rw [hx] at hx'
  injection hx' with hx'
  subst hx'
  exact hc
theorem neq_yes' {a b : Int} (h : a = b) : cmpB .neq a b = false := by subst h; simp [cmpB]
theorem neq_no' {a b : Int} (h : ¬ a = b) : cmpB .neq a b = true := by simp [cmpB, h]

set_option maxRecDepth 10000 in
set_option maxHeartbeats 1000000 in
theorem ens_equal (w : World) (A : Option Addr) (c : Nat) (es : List (Int × Int)) (hr : kEn.C w A es.length es) (B : Option Addr) (d : Nat) (fs : List (Int × Int)) (hr2 : kEn.C w B fs.length fs) (hl : es.length ≤ 1000000) (hl2 : fs.length ≤ 1000000) : Calls Try.prog 45 #[.slice A es.length c, .slice B fs.length d] w fun e w' => e = .returned (.bool (decide (es = fs))) ∧ Below w.heap.size w w' := by
  have HS := St.empty w
  by_cases hln : es.length = fs.length
  · skip
    refine c_enter Try.func45 rfl 26 rfl [.slice A es.length c, .slice B fs.length d, undef, undef, undef, undef, undef, undef, undef, undef, undef, undef, undef, undef, undef, undef, undef, undef, undef, undef, undef, undef, undef, undef, undef, undef] rfl ?_
    refine wp_seq_k (fun K1 hK2 => ?_)
    refine c_region (fun ops4 hops3 => ?_)
    clear hops3
    refine p_run (l' := _) _ (x_assign (.bool false) rfl rfl) rfl ?_
    refine wpList_nil ?_
    refine hK2 _ _ ?_
    refine wp_seq_k (fun K5 hK6 => ?_)
    refine wp_seq_k (fun K7 hK8 => ?_)
    refine c_region (fun ops10 hops9 => ?_)
    clear hops9
    refine p_run (l' := _) _ (x_move (.slice A es.length c) rfl rfl) rfl ?_
    refine p_run (l' := _) _ (x_len rfl rfl Try.underlying50) rfl ?_
    refine p_run (l' := _) _ (x_move (.slice B fs.length d) rfl rfl) rfl ?_
    refine p_run (l' := _) _ (x_len rfl rfl Try.underlying50) rfl ?_
    refine p_run (l' := _) _ (x_cmp (k := .i64) (m := (es.length : Int)) (n := (fs.length : Int)) .neq false rfl rfl rfl (neq_yes' (by omega)) rfl) rfl ?_
    refine wpList_nil ?_
    refine hK8 _ _ ?_
    refine c_false rfl ?_
    refine wp_skip ?_
    refine hK6 _ _ ?_
    refine wp_seq_k (fun K11 hK12 => ?_)
    refine wp_seq_k (fun K13 hK14 => ?_)
    refine c_region (fun ops16 hops15 => ?_)
    clear hops15
    refine p_run (l' := _) _ (x_move (.slice A es.length c) rfl rfl) rfl ?_
    refine p_run (l' := _) _ (x_len rfl rfl Try.underlying50) rfl ?_
    refine p_run (l' := _) _ (x_move (.int .i64 0) rfl rfl) rfl ?_
    refine wpList_nil ?_
    refine fr_at (l' := [.slice A es.length c, .slice B fs.length d, undef, undef, .bool false, undef, .slice A es.length c, .int .i64 (es.length : Int), .slice B fs.length d, .int .i64 (fs.length : Int), .bool false, .slice A es.length c, .int .i64 (es.length : Int), .int .i64 0, undef, undef, undef, undef, undef, undef, undef, undef, undef, undef, undef, undef]) rfl ?_
    refine hK14 _ _ ?_
    refine wp_block ?_
    refine c_loop (ι := Nat) (fun i_ a_ w_ => match i_ with | j => ∃ (u4 : Value) (u5 : Value) (u14 : Value) (u15 : Value) (u16 : Value) (u17 : Value) (u18 : Value) (u19 : Value) (u20 : Value) (u21 : Value) (u22 : Value) (u23 : Value) (u24 : Value) (u25 : Value), a_ = fr [.slice A es.length c, .slice B fs.length d, undef, undef, u4, u5, .slice A es.length c, .int .i64 (es.length : Int), .slice B fs.length d, .int .i64 (fs.length : Int), .bool false, .slice A es.length c, .int .i64 (es.length : Int), .int .i64 (j : Int), u14, u15, u16, u17, u18, u19, u20, u21, u22, u23, u24, u25] ∧ St w (fun _ => False) w_ ([]) ∧ (j ≤ es.length ∧ es.take j = fs.take j)) (fun i_ => match i_ with | j => es.length - j) 0 ?_ ?_
    · exact ⟨_, _, _, _, _, _, _, _, _, _, _, _, _, _, rfl, HS, ⟨by omega, rfl⟩⟩
    · clear HS
      rintro j a_ w19 ⟨u4, u5, u14, u15, u16, u17, u18, u19, u20, u21, u22, u23, u24, u25, rfl, HS, hI⟩ J17 hJ18
      have hjl := hI.1
      refine wp_seq_k (fun K20 hK21 => ?_)
      refine c_region (fun ops23 hops22 => ?_)
      clear hops22
      refine p_run (l' := _) _ (x_cmp (k := .i64) (m := (j : Int)) (n := (es.length : Int)) .lss (decide ((j : Int) < (es.length : Int))) rfl rfl rfl rfl rfl) rfl ?_
      refine wpList_nil ?_
      refine hK21 _ _ ?_
      refine wp_seq_k (fun K24 hK25 => ?_)
      refine c_cond (t := decide ((j : Int) < (es.length : Int))) rfl (fun hc26 => ?_) (fun hc26 => ?_)
      · have hlt : j < es.length := by have := of_decide_eq_true hc26; omega
        obtain ⟨ad, x, rfl, hx, hcell⟩ := en_get (Kd.C_below hr HS.belowOf) j hlt
        obtain ⟨ae, y, rfl, hy, hcell2⟩ := en_get (Kd.C_below hr2 HS.belowOf) j (by omega)
        refine wp_skip ?_
        refine hK25 _ _ ?_
        refine wp_seq_k (fun K27 hK28 => ?_)
        refine wp_block ?_
        refine wp_seq_k (fun K29 hK30 => ?_)
        refine c_region (fun ops32 hops31 => ?_)
        clear hops31
        refine p_run (l' := _) _ (x_move (.int .i64 (j : Int)) rfl rfl) rfl ?_
        refine p_run (l' := _) _ (x_assign (.int .i64 (j : Int)) rfl rfl) rfl ?_
        refine wpList_nil ?_
        refine hK30 _ _ ?_
        refine wp_seq_k (fun K33 hK34 => ?_)
        by_cases hxy : x = y
        · skip
          refine free_frame (n := 9) (T := _) [0, 0, 3, 7, 0, 0, 48, 112, 255] [(0, 16), (1, 17), (2, 18), (3, 19), (4, 20), (5, 21), (6, 22), (7, 23), (8, 24)] (fun bq_ vq_ w_ => qv ((fun i_ => match i_ with | 0 => some (.slice (some ad) es.length c) | 1 => some (.int .i64 (j : Int)) | 2 => some (.pointer (some ((ad).add (j * 2)))) | 3 => some (.agg ([.int .i64 x.1, .int .i64 x.2] : List Value).toArray) | 4 => some (.slice (some ae) fs.length d) | 5 => some (.int .i64 (j : Int)) | 6 => some (.pointer (some ((ae).add (j * 2)))) | 7 => some (.agg ([.int .i64 y.1, .int .i64 y.2] : List Value).toArray) | 8 => some (.bool false) | _ => none) : Nat → Option Value) bq_ vq_ ∧ (St w (fun _ => False) w_ ([]))) (by kernel_rfl) rfl rfl (by kernel_rfl) (by kernel_rfl) rfl (by kernel_rfl) (by kernel_rfl) ⟨qv_none, HS.draw⟩ ?_ ?_
          · clear HS
            intro i_ hi_ bq_ vq_ a_ w_ hG hb_ hon hoff hfr hel hval
            obtain ⟨hV, hE⟩ := hG
            have hi_ := List.mem_range.1 hi_
            obtain ⟨l_, rfl⟩ := hfr
            have hv_ := fun (j t : Nat) (v : Value) (h1 : (j, t) ∈ [(0, 16), (1, 17), (2, 18), (3, 19), (4, 20), (5, 21), (6, 22), (7, 23), (8, 24)]) h2 h3 => (hval (j, t) h1 h3).trans (congrArg some (hV j v h2 h3))
            have hcs : i_ = 0 ∨ i_ = 1 ∨ i_ = 2 ∨ i_ = 3 ∨ i_ = 4 ∨ i_ = 5 ∨ i_ = 6 ∨ i_ = 7 ∨ i_ = 8 := by omega
            rcases hcs with rfl | rfl | rfl | rfl | rfl | rfl | rfl | rfl | rfl
            · have e0 : evl l_ (.tmp 0) = .slice (some ad) es.length c := evl_of ((hel 0 (by decide)).trans rfl)
              exact ⟨_, rfl, fun K_ hK_ => q_op _ (x_move (.slice (some ad) es.length c) rfl e0) (hK_ _ _ ⟨qv_up hV (fun _ h => Option.some.inj h), hE⟩)⟩
            · have e5 : evl l_ (.tmp 5) = .int .i64 (j : Int) := evl_of ((hel 5 (by decide)).trans rfl)
              exact ⟨_, rfl, fun K_ hK_ => q_op _ (x_move (.int .i64 (j : Int)) rfl e5) (hK_ _ _ ⟨qv_up hV (fun _ h => Option.some.inj h), hE⟩)⟩
            · have e16 : evl l_ (.tmp 16) = .slice (some ad) es.length c := evl_of (hv_ 0 16 _ (by decide) rfl (hon 0 (by decide)))
              have e17 : evl l_ (.tmp 17) = .int .i64 (j : Int) := evl_of (hv_ 1 17 _ (by decide) rfl (hon 1 (by decide)))
              exact ⟨_, rfl, fun K_ hK_ => q_op _ (x_index (A := ad) (j := j * 2) (sz := 2) rfl e16 e17 Try.underlying50 (by kernel_rfl) (by omega) rfl) (hK_ _ _ ⟨qv_up hV (fun _ h => Option.some.inj h), hE⟩)⟩
            · have hE0 := hE
              have HS := hE0
              have e18 : evl l_ (.tmp 18) = .pointer (some ((ad).add (j * 2))) := evl_of (hv_ 2 18 _ (by decide) rfl (hon 2 (by decide)))
              exact ⟨_, rfl, fun K_ hK_ => q_op _ (x_loads [.int .i64 x.1, .int .i64 x.2] 2 rfl e18 (en_both (Kd.C_below hr HS.belowOf) hx) (by rfl) (by kernel_rfl) rfl) (hK_ _ _ ⟨qv_up hV (fun _ h => Option.some.inj h), hE⟩)⟩
            · have e1 : evl l_ (.tmp 1) = .slice (some ae) fs.length d := evl_of ((hel 1 (by decide)).trans rfl)
              exact ⟨_, rfl, fun K_ hK_ => q_op _ (x_move (.slice (some ae) fs.length d) rfl e1) (hK_ _ _ ⟨qv_up hV (fun _ h => Option.some.inj h), hE⟩)⟩
            · have e5 : evl l_ (.tmp 5) = .int .i64 (j : Int) := evl_of ((hel 5 (by decide)).trans rfl)
              exact ⟨_, rfl, fun K_ hK_ => q_op _ (x_move (.int .i64 (j : Int)) rfl e5) (hK_ _ _ ⟨qv_up hV (fun _ h => Option.some.inj h), hE⟩)⟩
            · have e20 : evl l_ (.tmp 20) = .slice (some ae) fs.length d := evl_of (hv_ 4 20 _ (by decide) rfl (hon 4 (by decide)))
              have e21 : evl l_ (.tmp 21) = .int .i64 (j : Int) := evl_of (hv_ 5 21 _ (by decide) rfl (hon 5 (by decide)))
              exact ⟨_, rfl, fun K_ hK_ => q_op _ (x_index (A := ae) (j := j * 2) (sz := 2) rfl e20 e21 Try.underlying50 (by kernel_rfl) (by omega) rfl) (hK_ _ _ ⟨qv_up hV (fun _ h => Option.some.inj h), hE⟩)⟩
            · have hE0 := hE
              have HS := hE0
              have e22 : evl l_ (.tmp 22) = .pointer (some ((ae).add (j * 2))) := evl_of (hv_ 6 22 _ (by decide) rfl (hon 6 (by decide)))
              exact ⟨_, rfl, fun K_ hK_ => q_op _ (x_loads [.int .i64 y.1, .int .i64 y.2] 2 rfl e22 (en_both (Kd.C_below hr2 HS.belowOf) hy) (by rfl) (by kernel_rfl) rfl) (hK_ _ _ ⟨qv_up hV (fun _ h => Option.some.inj h), hE⟩)⟩
            · have hE0 := hE
              have HS := hE0
              have e19 : evl l_ (.tmp 19) = .agg ([.int .i64 x.1, .int .i64 x.2] : List Value).toArray := evl_of (hv_ 3 19 _ (by decide) rfl (hon 3 (by decide)))
              have e23 : evl l_ (.tmp 23) = .agg ([.int .i64 y.1, .int .i64 y.2] : List Value).toArray := evl_of (hv_ 7 23 _ (by decide) rfl (hon 7 (by decide)))
              exact ⟨_, rfl, fun K_ hK_ => q_op _ (x_eq .neq (.agg ([.int .i64 x.1, .int .i64 x.2] : List Value).toArray) (.agg ([.int .i64 y.1, .int .i64 y.2] : List Value).toArray) (decide (x = y)) false rfl e19 e23 (equal_en _ x y) (by rw [decide_eq_true hxy]; rfl) rfl (guard_agg (by kernel_rfl)) (guard_agg (by kernel_rfl))) (hK_ _ _ ⟨qv_up hV (fun _ h => Option.some.inj h), hE⟩)⟩
          intro bq_ vq_ w_ hall hG
          obtain ⟨hV, hE⟩ := hG
          clear HS
          have HS := hE
          have hv0 := hV 0 _ rfl (hall 0 (by decide))
          have hv1 := hV 1 _ rfl (hall 1 (by decide))
          have hv2 := hV 2 _ rfl (hall 2 (by decide))
          have hv3 := hV 3 _ rfl (hall 3 (by decide))
          have hv4 := hV 4 _ rfl (hall 4 (by decide))
          have hv5 := hV 5 _ rfl (hall 5 (by decide))
          have hv6 := hV 6 _ rfl (hall 6 (by decide))
          have hv7 := hV 7 _ rfl (hall 7 (by decide))
          have hv8 := hV 8 _ rfl (hall 8 (by decide))
          clear hV hall
          rw [putSel_fr]
          simp only [tells, List.map_cons, List.map_nil, setAll, List.set_cons_succ, List.set_cons_zero, hv0, hv1, hv2, hv3, hv4, hv5, hv6, hv7, hv8]
          clear hv0 hv1 hv2 hv3 hv4 hv5 hv6 hv7 hv8
          generalize w_ = w900801 at HS ⊢
          refine fr_at (l' := [.slice (some ad) es.length c, .slice (some ae) fs.length d, undef, undef, u4, .int .i64 (j : Int), .slice (some ad) es.length c, .int .i64 (es.length : Int), .slice (some ae) fs.length d, .int .i64 (fs.length : Int), .bool false, .slice (some ad) es.length c, .int .i64 (es.length : Int), .int .i64 (j : Int), .bool (decide ((j : Int) < (es.length : Int))), .int .i64 (j : Int), .slice (some ad) es.length c, .int .i64 (j : Int), .pointer (some ((ad).add (j * 2))), .agg ([.int .i64 x.1, .int .i64 x.2] : List Value).toArray, .slice (some ae) fs.length d, .int .i64 (j : Int), .pointer (some ((ae).add (j * 2))), .agg ([.int .i64 y.1, .int .i64 y.2] : List Value).toArray, .bool false, u25]) rfl ?_
          refine hK34 _ _ ?_
          refine c_false rfl ?_
          refine wp_skip ?_
          refine hK28 _ _ ?_
          refine c_region (fun ops900803 hops900802 => ?_)
          clear hops900802
          refine p_run (l' := _) _ (x_arith (k := .i64) (m := (j : Int)) (n := 1) .add (((j + 1 : Nat) : Int)) rfl rfl rfl (show IntKind.i64.wrap ((j : Int) + 1) = ((j + 1 : Nat) : Int) from ((wr64' (by omega)).trans (by omega))) rfl) rfl ?_
          refine p_run (l' := _) _ (x_move (.int .i64 ((j + 1 : Nat) : Int)) rfl rfl) rfl ?_
          refine wpList_nil ?_
          refine hJ18 (j + 1) _ _ ?_ ?_
          · show es.length - (j + 1) < es.length - j; omega
          · exact ⟨_, _, _, _, _, _, _, _, _, _, _, _, _, _, rfl, HS, ⟨(by omega), take_snoc hI.2 hx hy hxy⟩⟩
        · skip
          refine free_frame (n := 9) (T := _) [0, 0, 3, 7, 0, 0, 48, 112, 255] [(0, 16), (1, 17), (2, 18), (3, 19), (4, 20), (5, 21), (6, 22), (7, 23), (8, 24)] (fun bq_ vq_ w_ => qv ((fun i_ => match i_ with | 0 => some (.slice (some ad) es.length c) | 1 => some (.int .i64 (j : Int)) | 2 => some (.pointer (some ((ad).add (j * 2)))) | 3 => some (.agg ([.int .i64 x.1, .int .i64 x.2] : List Value).toArray) | 4 => some (.slice (some ae) fs.length d) | 5 => some (.int .i64 (j : Int)) | 6 => some (.pointer (some ((ae).add (j * 2)))) | 7 => some (.agg ([.int .i64 y.1, .int .i64 y.2] : List Value).toArray) | 8 => some (.bool true) | _ => none) : Nat → Option Value) bq_ vq_ ∧ (St w (fun _ => False) w_ ([]))) (by kernel_rfl) rfl rfl (by kernel_rfl) (by kernel_rfl) rfl (by kernel_rfl) (by kernel_rfl) ⟨qv_none, HS.draw⟩ ?_ ?_
          · clear HS
            intro i_ hi_ bq_ vq_ a_ w_ hG hb_ hon hoff hfr hel hval
            obtain ⟨hV, hE⟩ := hG
            have hi_ := List.mem_range.1 hi_
            obtain ⟨l_, rfl⟩ := hfr
            have hv_ := fun (j t : Nat) (v : Value) (h1 : (j, t) ∈ [(0, 16), (1, 17), (2, 18), (3, 19), (4, 20), (5, 21), (6, 22), (7, 23), (8, 24)]) h2 h3 => (hval (j, t) h1 h3).trans (congrArg some (hV j v h2 h3))
            have hcs : i_ = 0 ∨ i_ = 1 ∨ i_ = 2 ∨ i_ = 3 ∨ i_ = 4 ∨ i_ = 5 ∨ i_ = 6 ∨ i_ = 7 ∨ i_ = 8 := by omega
            rcases hcs with rfl | rfl | rfl | rfl | rfl | rfl | rfl | rfl | rfl
            · have e0 : evl l_ (.tmp 0) = .slice (some ad) es.length c := evl_of ((hel 0 (by decide)).trans rfl)
              exact ⟨_, rfl, fun K_ hK_ => q_op _ (x_move (.slice (some ad) es.length c) rfl e0) (hK_ _ _ ⟨qv_up hV (fun _ h => Option.some.inj h), hE⟩)⟩
            · have e5 : evl l_ (.tmp 5) = .int .i64 (j : Int) := evl_of ((hel 5 (by decide)).trans rfl)
              exact ⟨_, rfl, fun K_ hK_ => q_op _ (x_move (.int .i64 (j : Int)) rfl e5) (hK_ _ _ ⟨qv_up hV (fun _ h => Option.some.inj h), hE⟩)⟩
            · have e16 : evl l_ (.tmp 16) = .slice (some ad) es.length c := evl_of (hv_ 0 16 _ (by decide) rfl (hon 0 (by decide)))
              have e17 : evl l_ (.tmp 17) = .int .i64 (j : Int) := evl_of (hv_ 1 17 _ (by decide) rfl (hon 1 (by decide)))
              exact ⟨_, rfl, fun K_ hK_ => q_op _ (x_index (A := ad) (j := j * 2) (sz := 2) rfl e16 e17 Try.underlying50 (by kernel_rfl) (by omega) rfl) (hK_ _ _ ⟨qv_up hV (fun _ h => Option.some.inj h), hE⟩)⟩
            · have hE0 := hE
              have HS := hE0
              have e18 : evl l_ (.tmp 18) = .pointer (some ((ad).add (j * 2))) := evl_of (hv_ 2 18 _ (by decide) rfl (hon 2 (by decide)))
              exact ⟨_, rfl, fun K_ hK_ => q_op _ (x_loads [.int .i64 x.1, .int .i64 x.2] 2 rfl e18 (en_both (Kd.C_below hr HS.belowOf) hx) (by rfl) (by kernel_rfl) rfl) (hK_ _ _ ⟨qv_up hV (fun _ h => Option.some.inj h), hE⟩)⟩
            · have e1 : evl l_ (.tmp 1) = .slice (some ae) fs.length d := evl_of ((hel 1 (by decide)).trans rfl)
              exact ⟨_, rfl, fun K_ hK_ => q_op _ (x_move (.slice (some ae) fs.length d) rfl e1) (hK_ _ _ ⟨qv_up hV (fun _ h => Option.some.inj h), hE⟩)⟩
            · have e5 : evl l_ (.tmp 5) = .int .i64 (j : Int) := evl_of ((hel 5 (by decide)).trans rfl)
              exact ⟨_, rfl, fun K_ hK_ => q_op _ (x_move (.int .i64 (j : Int)) rfl e5) (hK_ _ _ ⟨qv_up hV (fun _ h => Option.some.inj h), hE⟩)⟩
            · have e20 : evl l_ (.tmp 20) = .slice (some ae) fs.length d := evl_of (hv_ 4 20 _ (by decide) rfl (hon 4 (by decide)))
              have e21 : evl l_ (.tmp 21) = .int .i64 (j : Int) := evl_of (hv_ 5 21 _ (by decide) rfl (hon 5 (by decide)))
              exact ⟨_, rfl, fun K_ hK_ => q_op _ (x_index (A := ae) (j := j * 2) (sz := 2) rfl e20 e21 Try.underlying50 (by kernel_rfl) (by omega) rfl) (hK_ _ _ ⟨qv_up hV (fun _ h => Option.some.inj h), hE⟩)⟩
            · have hE0 := hE
              have HS := hE0
              have e22 : evl l_ (.tmp 22) = .pointer (some ((ae).add (j * 2))) := evl_of (hv_ 6 22 _ (by decide) rfl (hon 6 (by decide)))
              exact ⟨_, rfl, fun K_ hK_ => q_op _ (x_loads [.int .i64 y.1, .int .i64 y.2] 2 rfl e22 (en_both (Kd.C_below hr2 HS.belowOf) hy) (by rfl) (by kernel_rfl) rfl) (hK_ _ _ ⟨qv_up hV (fun _ h => Option.some.inj h), hE⟩)⟩
            · have hE0 := hE
              have HS := hE0
              have e19 : evl l_ (.tmp 19) = .agg ([.int .i64 x.1, .int .i64 x.2] : List Value).toArray := evl_of (hv_ 3 19 _ (by decide) rfl (hon 3 (by decide)))
              have e23 : evl l_ (.tmp 23) = .agg ([.int .i64 y.1, .int .i64 y.2] : List Value).toArray := evl_of (hv_ 7 23 _ (by decide) rfl (hon 7 (by decide)))
              exact ⟨_, rfl, fun K_ hK_ => q_op _ (x_eq .neq (.agg ([.int .i64 x.1, .int .i64 x.2] : List Value).toArray) (.agg ([.int .i64 y.1, .int .i64 y.2] : List Value).toArray) (decide (x = y)) true rfl e19 e23 (equal_en _ x y) (by rw [decide_eq_false hxy]; rfl) rfl (guard_agg (by kernel_rfl)) (guard_agg (by kernel_rfl))) (hK_ _ _ ⟨qv_up hV (fun _ h => Option.some.inj h), hE⟩)⟩
          intro bq_ vq_ w_ hall hG
          obtain ⟨hV, hE⟩ := hG
          clear HS
          have HS := hE
          have hv0 := hV 0 _ rfl (hall 0 (by decide))
          have hv1 := hV 1 _ rfl (hall 1 (by decide))
          have hv2 := hV 2 _ rfl (hall 2 (by decide))
          have hv3 := hV 3 _ rfl (hall 3 (by decide))
          have hv4 := hV 4 _ rfl (hall 4 (by decide))
          have hv5 := hV 5 _ rfl (hall 5 (by decide))
          have hv6 := hV 6 _ rfl (hall 6 (by decide))
          have hv7 := hV 7 _ rfl (hall 7 (by decide))
          have hv8 := hV 8 _ rfl (hall 8 (by decide))
          clear hV hall
          rw [putSel_fr]
          simp only [tells, List.map_cons, List.map_nil, setAll, List.set_cons_succ, List.set_cons_zero, hv0, hv1, hv2, hv3, hv4, hv5, hv6, hv7, hv8]
          clear hv0 hv1 hv2 hv3 hv4 hv5 hv6 hv7 hv8
          generalize w_ = w900801 at HS ⊢
          refine fr_at (l' := [.slice (some ad) es.length c, .slice (some ae) fs.length d, undef, undef, u4, .int .i64 (j : Int), .slice (some ad) es.length c, .int .i64 (es.length : Int), .slice (some ae) fs.length d, .int .i64 (fs.length : Int), .bool false, .slice (some ad) es.length c, .int .i64 (es.length : Int), .int .i64 (j : Int), .bool (decide ((j : Int) < (es.length : Int))), .int .i64 (j : Int), .slice (some ad) es.length c, .int .i64 (j : Int), .pointer (some ((ad).add (j * 2))), .agg ([.int .i64 x.1, .int .i64 x.2] : List Value).toArray, .slice (some ae) fs.length d, .int .i64 (j : Int), .pointer (some ((ae).add (j * 2))), .agg ([.int .i64 y.1, .int .i64 y.2] : List Value).toArray, .bool true, u25]) rfl ?_
          refine hK34 _ _ ?_
          refine c_true rfl ?_
          refine wp_seq_k (fun K900802 hK900803 => ?_)
          refine c_region (fun ops900805 hops900804 => ?_)
          clear hops900804
          refine p_run (l' := _) _ (x_assign (.bool false) rfl rfl) rfl ?_
          refine wpList_nil ?_
          refine hK900803 _ _ ?_
          refine wp_ret ?_
          try simp only [Exit.inBlock, Exit.then]
          refine c_ret (.bool false) (r_tmp rfl rfl) ?_
          have hne : decide (es = fs) = false := decide_eq_false (fun h => hxy (by rw [h, hy] at hx; injection hx with hx; exact hx.symm))
          rw [hne]
          exact ⟨rfl, HS.belowOf⟩
      · have hlt : j = es.length := by have := of_decide_eq_false hc26; omega
        subst hlt
        refine wp_exit ?_
        refine hK12 _ _ ?_
        refine wp_seq_k (fun K900806 hK900807 => ?_)
        refine c_region (fun ops900809 hops900808 => ?_)
        clear hops900808
        refine p_run (l' := _) _ (x_assign (.bool true) rfl rfl) rfl ?_
        refine wpList_nil ?_
        refine hK900807 _ _ ?_
        refine wp_ret ?_
        try simp only [Exit.inBlock, Exit.then]
        refine c_ret (.bool true) (r_tmp rfl rfl) ?_
        have hne : decide (es = fs) = true := decide_eq_true (by have h := hI.2; rw [List.take_length, hln, List.take_length] at h; exact h)
        rw [hne]
        exact ⟨rfl, HS.belowOf⟩
  · skip
    refine c_enter Try.func45 rfl 26 rfl [.slice A es.length c, .slice B fs.length d, undef, undef, undef, undef, undef, undef, undef, undef, undef, undef, undef, undef, undef, undef, undef, undef, undef, undef, undef, undef, undef, undef, undef, undef] rfl ?_
    refine wp_seq_k (fun K1 hK2 => ?_)
    refine c_region (fun ops4 hops3 => ?_)
    clear hops3
    refine p_run (l' := _) _ (x_assign (.bool false) rfl rfl) rfl ?_
    refine wpList_nil ?_
    refine hK2 _ _ ?_
    refine wp_seq_k (fun K5 hK6 => ?_)
    refine wp_seq_k (fun K7 hK8 => ?_)
    refine c_region (fun ops10 hops9 => ?_)
    clear hops9
    refine p_run (l' := _) _ (x_move (.slice A es.length c) rfl rfl) rfl ?_
    refine p_run (l' := _) _ (x_len rfl rfl Try.underlying50) rfl ?_
    refine p_run (l' := _) _ (x_move (.slice B fs.length d) rfl rfl) rfl ?_
    refine p_run (l' := _) _ (x_len rfl rfl Try.underlying50) rfl ?_
    refine p_run (l' := _) _ (x_cmp (k := .i64) (m := (es.length : Int)) (n := (fs.length : Int)) .neq true rfl rfl rfl (neq_no' (by omega)) rfl) rfl ?_
    refine wpList_nil ?_
    refine hK8 _ _ ?_
    refine c_true rfl ?_
    refine wp_seq_k (fun K11 hK12 => ?_)
    refine c_region (fun ops14 hops13 => ?_)
    clear hops13
    refine p_run (l' := _) _ (x_assign (.bool false) rfl rfl) rfl ?_
    refine wpList_nil ?_
    refine hK12 _ _ ?_
    refine wp_ret ?_
    try simp only [Exit.inBlock, Exit.then]
    refine c_ret (.bool false) (r_tmp rfl rfl) ?_
    have hne : decide (es = fs) = false := decide_eq_false (fun h => hln (by rw [h]))
    rw [hne]
    exact ⟨rfl, HS.belowOf⟩

set_option maxRecDepth 10000 in
set_option maxHeartbeats 1000000 in
theorem same_any (w : World) (k : Int) (b : List UInt8) (hb : b.length = 16) (A : Option Addr) (c : Nat) (es : List (Int × Int)) (hr : kEn.C w A es.length es) (hl : es.length ≤ 1000) (k2 : Int) (b2 : List UInt8) (hb2 : b2.length = 16) (B : Option Addr) (d : Nat) (fs : List (Int × Int)) (hr2 : kEn.C w B fs.length fs) (hl2 : fs.length ≤ 1000) : Calls Try.prog 30 #[.agg (Value.int .i64 k :: ((nums .u8 (b.map bv)) ++ ([Value.slice A es.length c]))).toArray, .agg (Value.int .i64 k2 :: ((nums .u8 (b2.map bv)) ++ ([Value.slice B fs.length d]))).toArray] w fun e w' => e = .returned (.bool (decide (k = k2 ∧ b = b2 ∧ es = fs))) ∧ Below w.heap.size w w' := by
  have HS := St.empty w
  by_cases hk : k = k2
  · skip
    by_cases hbb : b = b2
    · skip
      refine c_enter Try.func30 rfl 24 rfl [.agg (Value.int .i64 k :: ((nums .u8 (b.map bv)) ++ ([Value.slice A es.length c]))).toArray, .agg (Value.int .i64 k2 :: ((nums .u8 (b2.map bv)) ++ ([Value.slice B fs.length d]))).toArray, undef, undef, undef, undef, undef, undef, undef, undef, undef, undef, undef, undef, undef, undef, undef, undef, undef, undef, undef, undef, undef, undef] rfl ?_
      refine wp_seq_k (fun K1 hK2 => ?_)
      refine c_region (fun ops4 hops3 => ?_)
      clear hops3
      refine St.wBox HS (cs := (Value.int .i64 k :: ((nums .u8 (b.map bv)) ++ ([Value.slice A es.length c])))) (.agg (Value.int .i64 k :: ((nums .u8 (b.map bv)) ++ ([Value.slice A es.length c]))).toArray) rfl rfl ?_
      clear HS
      intro g5 w6 hg7 HS
      refine St.wBox HS (cs := (Value.int .i64 k2 :: ((nums .u8 (b2.map bv)) ++ ([Value.slice B fs.length d])))) (.agg (Value.int .i64 k2 :: ((nums .u8 (b2.map bv)) ++ ([Value.slice B fs.length d]))).toArray) rfl rfl ?_
      clear HS
      intro g8 w9 hg10 HS
      refine p_run (l' := _) _ (x_assign (.bool false) rfl rfl) rfl ?_
      refine wpList_nil ?_
      refine hK2 _ _ ?_
      refine wp_seq_k (fun K11 hK12 => ?_)
      refine c_region (fun ops14 hops13 => ?_)
      refine p_run (l' := _) _ (x_field (j := 0) _ _ rfl rfl Try.underlying52 rfl (by rfl) rfl) rfl ?_
      refine p_run (l' := _) _ (x_load (.int .i64 k) rfl rfl (bkCell (HS.get (.tail _ (.head _))) 0 _ rfl) (by rfl)) rfl ?_
      refine p_run (l' := _) _ (x_field (j := 0) _ _ rfl rfl Try.underlying52 rfl (by rfl) rfl) rfl ?_
      refine p_run (l' := _) _ (x_load (.int .i64 k2) rfl rfl (bkCell (HS.get (.head _)) 0 _ rfl) (by rfl)) rfl ?_
      refine p_run (l' := _) _ (x_cmp (k := .i64) (m := k) (n := k2) .eql true rfl rfl rfl (cmp_yes hk) rfl) rfl ?_
      refine p_run (l' := _) _ (x_move (.bool true) rfl rfl) rfl ?_
      refine p_on rfl (by rw [hops13]; rfl) ?_
      refine p_run (l' := _) _ (x_field (j := 1) _ _ rfl rfl Try.underlying52 rfl (by rfl) rfl) rfl ?_
      refine p_on rfl (by rw [hops13]; rfl) ?_
      refine p_run (l' := _) _ (x_loads ((nums .u8 (b.map bv))) 16 rfl rfl (bkCells (HS.get (.tail _ (.head _))) 1 _ (by simp)) (by rfl) (by kernel_rfl) (by simp [List.length_map, hb, nums_length])) rfl ?_
      refine p_on rfl (by rw [hops13]; rfl) ?_
      refine p_run (l' := [.agg (Value.int .i64 k :: ((nums .u8 (b.map bv)) ++ ([Value.slice A es.length c]))).toArray, .agg (Value.int .i64 k2 :: ((nums .u8 (b2.map bv)) ++ ([Value.slice B fs.length d]))).toArray, .pointer (some ⟨g5, 0, none⟩), .pointer (some ⟨g8, 0, none⟩), .bool false, .pointer (some ⟨g5, 0, none⟩), .int .i64 k, .pointer (some ⟨g8, 0, none⟩), .int .i64 k2, .bool true, .bool true, .pointer (some ⟨g5, 1, none⟩), .agg ((nums .u8 (b.map bv))).toArray, .pointer (some ⟨g8, 1, none⟩), undef, undef, undef, undef, undef, undef, undef, undef, undef, undef]) _ (x_field (j := 1) _ _ rfl rfl Try.underlying52 rfl (by rfl) rfl) rfl ?_
      refine p_on rfl (by rw [hops13]; rfl) ?_
      refine p_run (l' := _) _ (x_loads ((nums .u8 (b2.map bv))) 16 rfl rfl (bkCells (HS.get (.head _)) 1 _ (by simp)) (by rfl) (by kernel_rfl) (by simp [List.length_map, hb2, nums_length])) rfl ?_
      refine p_on rfl (by rw [hops13]; rfl) ?_
      refine p_run (l' := _) _ (x_eq .eql (.agg ((nums .u8 (b.map bv))).toArray) (.agg ((nums .u8 (b2.map bv))).toArray) (decide ((b.map bv) = (b2.map bv))) true rfl rfl rfl (equal_nums Try.underlying49 Try.underlying5 (by kernel_rfl) (by kernel_rfl) _ _ (by simp [List.length_map, hb]) (by simp [List.length_map, hb2])) ((eq_map b b2).trans (decide_eq_true hbb)) rfl (guard_agg (by kernel_rfl)) (guard_agg (by kernel_rfl))) rfl ?_
      refine p_run (l' := _) _ (x_pick true (.bool true) (.bool false) (.bool true) rfl rfl rfl rfl rfl) rfl ?_
      refine p_run (l' := _) _ (x_move (.bool true) rfl rfl) rfl ?_
      refine p_on rfl (by rw [hops13]; rfl) ?_
      refine p_run (l' := _) _ (x_field (j := 17) _ _ rfl rfl Try.underlying52 rfl (by rfl) rfl) rfl ?_
      refine p_on rfl (by rw [hops13]; rfl) ?_
      refine p_run (l' := _) _ (x_load (.slice A es.length c) rfl rfl (bkCell (HS.get (.tail _ (.head _))) 17 _ (by simp [List.getElem?_append, List.length_map, hb, nums_length])) (by rfl)) rfl ?_
      refine p_on rfl (by rw [hops13]; rfl) ?_
      refine p_run (l' := _) _ (x_field (j := 17) _ _ rfl rfl Try.underlying52 rfl (by rfl) rfl) rfl ?_
      refine p_on rfl (by rw [hops13]; rfl) ?_
      refine p_run (l' := _) _ (x_load (.slice B fs.length d) rfl rfl (bkCell (HS.get (.head _)) 17 _ (by simp [List.getElem?_append, List.length_map, hb2, nums_length])) (by rfl)) rfl ?_
      refine p_on rfl (by rw [hops13]; rfl) ?_
      refine w_call [.slice A es.length c, .slice B fs.length d] Try.func45 (by kernel_rfl) (by rfl) rfl ?_
      refine (ens_equal _ A c es (Kd.C_below hr HS.belowOf) B d fs (Kd.C_below hr2 HS.belowOf) (by omega) (by omega)).mono ?_
      rintro e w15 ⟨rfl, hb_⟩
      replace HS := HS.here hb_
      clear hb_
      refine ⟨_, rfl, ?_⟩
      refine p_run (l' := _) _ (x_pick true (.bool (decide (es = fs))) (.bool false) (.bool (decide (es = fs))) rfl rfl rfl rfl rfl) rfl ?_
      refine p_run (l' := _) _ (x_assign (.bool (decide (es = fs))) rfl rfl) rfl ?_
      clear hops13
      refine wpList_nil ?_
      refine fr_at (l' := [.agg (Value.int .i64 k :: ((nums .u8 (b.map bv)) ++ ([Value.slice A es.length c]))).toArray, .agg (Value.int .i64 k2 :: ((nums .u8 (b2.map bv)) ++ ([Value.slice B fs.length d]))).toArray, .pointer (some ⟨g5, 0, none⟩), .pointer (some ⟨g8, 0, none⟩), .bool (decide (es = fs)), .pointer (some ⟨g5, 0, none⟩), .int .i64 k, .pointer (some ⟨g8, 0, none⟩), .int .i64 k2, .bool true, .bool true, .pointer (some ⟨g5, 1, none⟩), .agg ((nums .u8 (b.map bv))).toArray, .pointer (some ⟨g8, 1, none⟩), .agg ((nums .u8 (b2.map bv))).toArray, .bool true, .bool true, .bool true, .pointer (some ⟨g5, 17, none⟩), .slice A es.length c, .pointer (some ⟨g8, 17, none⟩), .slice B fs.length d, .bool (decide (es = fs)), .bool (decide (es = fs))]) rfl ?_
      refine hK12 _ _ ?_
      refine wp_ret ?_
      try simp only [Exit.inBlock, Exit.then]
      refine c_ret (.bool (decide (es = fs))) (r_tmp rfl rfl) ?_
      have e1 : decide (k = k2 ∧ b = b2 ∧ es = fs) = (decide (es = fs)) := by simp [hk, hbb]
      rw [e1]
      exact ⟨rfl, HS.belowOf⟩
    · skip
      refine c_enter Try.func30 rfl 24 rfl [.agg (Value.int .i64 k :: ((nums .u8 (b.map bv)) ++ ([Value.slice A es.length c]))).toArray, .agg (Value.int .i64 k2 :: ((nums .u8 (b2.map bv)) ++ ([Value.slice B fs.length d]))).toArray, undef, undef, undef, undef, undef, undef, undef, undef, undef, undef, undef, undef, undef, undef, undef, undef, undef, undef, undef, undef, undef, undef] rfl ?_
      refine wp_seq_k (fun K1 hK2 => ?_)
      refine c_region (fun ops4 hops3 => ?_)
      clear hops3
      refine St.wBox HS (cs := (Value.int .i64 k :: ((nums .u8 (b.map bv)) ++ ([Value.slice A es.length c])))) (.agg (Value.int .i64 k :: ((nums .u8 (b.map bv)) ++ ([Value.slice A es.length c]))).toArray) rfl rfl ?_
      clear HS
      intro g5 w6 hg7 HS
      refine St.wBox HS (cs := (Value.int .i64 k2 :: ((nums .u8 (b2.map bv)) ++ ([Value.slice B fs.length d])))) (.agg (Value.int .i64 k2 :: ((nums .u8 (b2.map bv)) ++ ([Value.slice B fs.length d]))).toArray) rfl rfl ?_
      clear HS
      intro g8 w9 hg10 HS
      refine p_run (l' := _) _ (x_assign (.bool false) rfl rfl) rfl ?_
      refine wpList_nil ?_
      refine hK2 _ _ ?_
      refine wp_seq_k (fun K11 hK12 => ?_)
      refine c_region (fun ops14 hops13 => ?_)
      refine p_run (l' := _) _ (x_field (j := 0) _ _ rfl rfl Try.underlying52 rfl (by rfl) rfl) rfl ?_
      refine p_run (l' := _) _ (x_load (.int .i64 k) rfl rfl (bkCell (HS.get (.tail _ (.head _))) 0 _ rfl) (by rfl)) rfl ?_
      refine p_run (l' := _) _ (x_field (j := 0) _ _ rfl rfl Try.underlying52 rfl (by rfl) rfl) rfl ?_
      refine p_run (l' := _) _ (x_load (.int .i64 k2) rfl rfl (bkCell (HS.get (.head _)) 0 _ rfl) (by rfl)) rfl ?_
      refine p_run (l' := _) _ (x_cmp (k := .i64) (m := k) (n := k2) .eql true rfl rfl rfl (cmp_yes hk) rfl) rfl ?_
      refine p_run (l' := _) _ (x_move (.bool true) rfl rfl) rfl ?_
      refine p_on rfl (by rw [hops13]; rfl) ?_
      refine p_run (l' := _) _ (x_field (j := 1) _ _ rfl rfl Try.underlying52 rfl (by rfl) rfl) rfl ?_
      refine p_on rfl (by rw [hops13]; rfl) ?_
      refine p_run (l' := _) _ (x_loads ((nums .u8 (b.map bv))) 16 rfl rfl (bkCells (HS.get (.tail _ (.head _))) 1 _ (by simp)) (by rfl) (by kernel_rfl) (by simp [List.length_map, hb, nums_length])) rfl ?_
      refine p_on rfl (by rw [hops13]; rfl) ?_
      refine p_run (l' := [.agg (Value.int .i64 k :: ((nums .u8 (b.map bv)) ++ ([Value.slice A es.length c]))).toArray, .agg (Value.int .i64 k2 :: ((nums .u8 (b2.map bv)) ++ ([Value.slice B fs.length d]))).toArray, .pointer (some ⟨g5, 0, none⟩), .pointer (some ⟨g8, 0, none⟩), .bool false, .pointer (some ⟨g5, 0, none⟩), .int .i64 k, .pointer (some ⟨g8, 0, none⟩), .int .i64 k2, .bool true, .bool true, .pointer (some ⟨g5, 1, none⟩), .agg ((nums .u8 (b.map bv))).toArray, .pointer (some ⟨g8, 1, none⟩), undef, undef, undef, undef, undef, undef, undef, undef, undef, undef]) _ (x_field (j := 1) _ _ rfl rfl Try.underlying52 rfl (by rfl) rfl) rfl ?_
      refine p_on rfl (by rw [hops13]; rfl) ?_
      refine p_run (l' := _) _ (x_loads ((nums .u8 (b2.map bv))) 16 rfl rfl (bkCells (HS.get (.head _)) 1 _ (by simp)) (by rfl) (by kernel_rfl) (by simp [List.length_map, hb2, nums_length])) rfl ?_
      refine p_on rfl (by rw [hops13]; rfl) ?_
      refine p_run (l' := _) _ (x_eq .eql (.agg ((nums .u8 (b.map bv))).toArray) (.agg ((nums .u8 (b2.map bv))).toArray) (decide ((b.map bv) = (b2.map bv))) false rfl rfl rfl (equal_nums Try.underlying49 Try.underlying5 (by kernel_rfl) (by kernel_rfl) _ _ (by simp [List.length_map, hb]) (by simp [List.length_map, hb2])) ((eq_map b b2).trans (decide_eq_false hbb)) rfl (guard_agg (by kernel_rfl)) (guard_agg (by kernel_rfl))) rfl ?_
      refine p_run (l' := _) _ (x_pick true (.bool false) (.bool false) (.bool false) rfl rfl rfl rfl rfl) rfl ?_
      refine p_run (l' := _) _ (x_move (.bool false) rfl rfl) rfl ?_
      refine p_off (l' := _) (by rw [hops13]; rfl) rfl ?_
      refine p_off (l' := _) (by rw [hops13]; rfl) rfl ?_
      refine p_off (l' := _) (by rw [hops13]; rfl) rfl ?_
      refine p_off (l' := _) (by rw [hops13]; rfl) rfl ?_
      refine p_off (l' := _) (by rw [hops13]; rfl) rfl ?_
      refine p_run (l' := _) _ (x_pick false (undef) (.bool false) (.bool false) rfl rfl rfl rfl rfl) rfl ?_
      refine p_run (l' := _) _ (x_assign (.bool false) rfl rfl) rfl ?_
      clear hops13
      refine wpList_nil ?_
      refine fr_at (l' := [.agg (Value.int .i64 k :: ((nums .u8 (b.map bv)) ++ ([Value.slice A es.length c]))).toArray, .agg (Value.int .i64 k2 :: ((nums .u8 (b2.map bv)) ++ ([Value.slice B fs.length d]))).toArray, .pointer (some ⟨g5, 0, none⟩), .pointer (some ⟨g8, 0, none⟩), .bool false, .pointer (some ⟨g5, 0, none⟩), .int .i64 k, .pointer (some ⟨g8, 0, none⟩), .int .i64 k2, .bool true, .bool true, .pointer (some ⟨g5, 1, none⟩), .agg ((nums .u8 (b.map bv))).toArray, .pointer (some ⟨g8, 1, none⟩), .agg ((nums .u8 (b2.map bv))).toArray, .bool false, .bool false, .bool false, undef, undef, undef, undef, undef, .bool false]) rfl ?_
      refine hK12 _ _ ?_
      refine wp_ret ?_
      try simp only [Exit.inBlock, Exit.then]
      refine c_ret (.bool false) (r_tmp rfl rfl) ?_
      have e1 : decide (k = k2 ∧ b = b2 ∧ es = fs) = false := by simp [hk, hbb]
      rw [e1]
      exact ⟨rfl, HS.belowOf⟩
  · skip
    refine c_enter Try.func30 rfl 24 rfl [.agg (Value.int .i64 k :: ((nums .u8 (b.map bv)) ++ ([Value.slice A es.length c]))).toArray, .agg (Value.int .i64 k2 :: ((nums .u8 (b2.map bv)) ++ ([Value.slice B fs.length d]))).toArray, undef, undef, undef, undef, undef, undef, undef, undef, undef, undef, undef, undef, undef, undef, undef, undef, undef, undef, undef, undef, undef, undef] rfl ?_
    refine wp_seq_k (fun K1 hK2 => ?_)
    refine c_region (fun ops4 hops3 => ?_)
    clear hops3
    refine St.wBox HS (cs := (Value.int .i64 k :: ((nums .u8 (b.map bv)) ++ ([Value.slice A es.length c])))) (.agg (Value.int .i64 k :: ((nums .u8 (b.map bv)) ++ ([Value.slice A es.length c]))).toArray) rfl rfl ?_
    clear HS
    intro g5 w6 hg7 HS
    refine St.wBox HS (cs := (Value.int .i64 k2 :: ((nums .u8 (b2.map bv)) ++ ([Value.slice B fs.length d])))) (.agg (Value.int .i64 k2 :: ((nums .u8 (b2.map bv)) ++ ([Value.slice B fs.length d]))).toArray) rfl rfl ?_
    clear HS
    intro g8 w9 hg10 HS
    refine p_run (l' := _) _ (x_assign (.bool false) rfl rfl) rfl ?_
    refine wpList_nil ?_
    refine hK2 _ _ ?_
    refine wp_seq_k (fun K11 hK12 => ?_)
    refine c_region (fun ops14 hops13 => ?_)
    refine p_run (l' := _) _ (x_field (j := 0) _ _ rfl rfl Try.underlying52 rfl (by rfl) rfl) rfl ?_
    refine p_run (l' := _) _ (x_load (.int .i64 k) rfl rfl (bkCell (HS.get (.tail _ (.head _))) 0 _ rfl) (by rfl)) rfl ?_
    refine p_run (l' := _) _ (x_field (j := 0) _ _ rfl rfl Try.underlying52 rfl (by rfl) rfl) rfl ?_
    refine p_run (l' := _) _ (x_load (.int .i64 k2) rfl rfl (bkCell (HS.get (.head _)) 0 _ rfl) (by rfl)) rfl ?_
    refine p_run (l' := _) _ (x_cmp (k := .i64) (m := k) (n := k2) .eql false rfl rfl rfl (cmp_not hk) rfl) rfl ?_
    refine p_run (l' := _) _ (x_move (.bool false) rfl rfl) rfl ?_
    refine p_off (l' := _) (by rw [hops13]; rfl) rfl ?_
    refine p_off (l' := _) (by rw [hops13]; rfl) rfl ?_
    refine p_off (l' := [.agg (Value.int .i64 k :: ((nums .u8 (b.map bv)) ++ ([Value.slice A es.length c]))).toArray, .agg (Value.int .i64 k2 :: ((nums .u8 (b2.map bv)) ++ ([Value.slice B fs.length d]))).toArray, .pointer (some ⟨g5, 0, none⟩), .pointer (some ⟨g8, 0, none⟩), .bool false, .pointer (some ⟨g5, 0, none⟩), .int .i64 k, .pointer (some ⟨g8, 0, none⟩), .int .i64 k2, .bool false, .bool false, undef, undef, undef, undef, undef, undef, undef, undef, undef, undef, undef, undef, undef]) (by rw [hops13]; rfl) rfl ?_
    refine p_off (l' := _) (by rw [hops13]; rfl) rfl ?_
    refine p_off (l' := _) (by rw [hops13]; rfl) rfl ?_
    refine p_run (l' := _) _ (x_pick false (undef) (.bool false) (.bool false) rfl rfl rfl rfl rfl) rfl ?_
    refine p_run (l' := _) _ (x_move (.bool false) rfl rfl) rfl ?_
    refine p_off (l' := _) (by rw [hops13]; rfl) rfl ?_
    refine p_off (l' := _) (by rw [hops13]; rfl) rfl ?_
    refine p_off (l' := _) (by rw [hops13]; rfl) rfl ?_
    refine p_off (l' := _) (by rw [hops13]; rfl) rfl ?_
    refine p_off (l' := _) (by rw [hops13]; rfl) rfl ?_
    refine p_run (l' := _) _ (x_pick false (undef) (.bool false) (.bool false) rfl rfl rfl rfl rfl) rfl ?_
    refine p_run (l' := _) _ (x_assign (.bool false) rfl rfl) rfl ?_
    clear hops13
    refine wpList_nil ?_
    refine fr_at (l' := [.agg (Value.int .i64 k :: ((nums .u8 (b.map bv)) ++ ([Value.slice A es.length c]))).toArray, .agg (Value.int .i64 k2 :: ((nums .u8 (b2.map bv)) ++ ([Value.slice B fs.length d]))).toArray, .pointer (some ⟨g5, 0, none⟩), .pointer (some ⟨g8, 0, none⟩), .bool false, .pointer (some ⟨g5, 0, none⟩), .int .i64 k, .pointer (some ⟨g8, 0, none⟩), .int .i64 k2, .bool false, .bool false, undef, undef, undef, undef, undef, .bool false, .bool false, undef, undef, undef, undef, undef, .bool false]) rfl ?_
    refine hK12 _ _ ?_
    refine wp_ret ?_
    try simp only [Exit.inBlock, Exit.then]
    refine c_ret (.bool false) (r_tmp rfl rfl) ?_
    have e1 : decide (k = k2 ∧ b = b2 ∧ es = fs) = false := by simp [hk]
    rw [e1]
    exact ⟨rfl, HS.belowOf⟩
end Go.Proofs.Ytiokdpnhaemciaa
