/- == of labels, items, haves; slices.Equal of both; frame.Same. -/
import Derived.Test.YtmachdikonelbaaZFrameReadsFr2
set_option linter.unusedVariables false
set_option linter.unusedSimpArgs false
namespace Go.Proofs.Ytmachdikonelbaa
open Go.RowKit Go.Proofs.YtmachdikonelbaaW.PrintWords Go.Proofs.YtmachdikonelbaaW.PrintLast Crc
abbrev U4f7 (l : List Value) : List Value := undef :: undef :: undef :: undef :: l
abbrev U8f7 (l : List Value) : List Value := U4f7 (U4f7 l)
abbrev U16f7 (l : List Value) : List Value := U8f7 (U8f7 l)
abbrev U32f7 (l : List Value) : List Value := U16f7 (U16f7 l)
abbrev U64f7 (l : List Value) : List Value := U32f7 (U32f7 l)
theorem map_bvI {a b : List UInt8} (h : a.map bv = b.map bv) : a = b := by
  induction a generalizing b with
  | nil => cases b with
    | nil => rfl
    | cons y b => simp at h
  | cons x a ih => cases b with
    | nil => simp at h
    | cons y b =>
      simp only [List.map_cons, List.cons.injEq] at h
      rw [bv_inj h.1, ih h.2]
theorem bqI (a b : Int) : (a == b) = decide (a = b) := rfl
theorem part_one {P : Program} {w : World} {e o : Nat} {cs : Array Value} {u : Value} (hna : oneT P e = true) (h : cs[o]? = some u) : (part e cs o).run P w = .ok u w := by
  simp only [part, Sem.run_bind, run_oneT hna, Result.andThen_ok, h]
  simp
theorem part_agg {P : Program} {w : World} {e o n : Nat} {cs : Array Value} {us : Array Value} (hna : aggT P e = true) (hz : (P.info? e).map (·.size) = some n) (h : cs.extract o (o + n) = us) : (part e cs o).run P w = .ok (.agg us) w := by
  cases hq : P.info? e with
  | none => simp [hq] at hz
  | some i =>
    have hs : i.size = n := by simpa [hq] using hz
    simp [part, Sem.run_bind, run_aggT hna, sizeOf, typeInfo, hq, hs, h]
theorem eqFields_of {P : Program} {w : World} (d : Nat) (xs ys : Array Value) : ∀ (sp : List (Nat × Nat × Bool)) (fs : List Field), (fs.map fun f => (f.name == "_", f.type, f.offset)) = sp.map (fun s => (false, s.1, s.2.1)) → (∀ s ∈ sp, ∃ a b, (part s.1 xs s.2.1).run P w = .ok a w ∧ (part s.1 ys s.2.1).run P w = .ok b w ∧ (Op.equalIn d s.1 a b).run P w = .ok s.2.2 w) → (Op.eqFields d xs ys fs).run P w = .ok (sp.all (·.2.2)) w
  | [], [], _, _ => rfl
  | [], f :: fs, h, _ => by simp at h
  | s :: sp, [], h, _ => by simp at h
  | s :: sp, f :: fs, h, hs => by
    simp only [List.map_cons, List.cons.injEq, Prod.mk.injEq] at h
    obtain ⟨⟨n1, t1, o1⟩, h2⟩ := h
    have m1 : f.name ≠ "_" := by simpa using n1
    obtain ⟨a, b, p1, p2, he⟩ := hs s (.head _)
    have ih := eqFields_of d xs ys sp fs h2 (fun s hm => hs s (.tail _ hm))
    simp only [Op.eqFields, if_pos m1, t1, o1, Sem.run_bind, p1, p2, Result.andThen_ok, he]
    cases hb : s.2.2
    · simp [List.all_cons, hb]
    · simp only [Bool.not_true, Bool.false_eq_true, if_false, List.all_cons, hb, Bool.true_and]
      exact ih
theorem equalIn_lb (w : World) (n : Nat) (a b c d : Int) : (Op.equalIn (n + 2) 29 (.agg #[Value.int .u32 a, Value.int .u32 b]) (.agg #[Value.int .u32 c, Value.int .u32 d])).run Try.prog w = .ok (decide (a = c ∧ b = d)) w := by
  rw [run_equalIn_struct w (n + 1) 29 _ _ (by kernel_rfl) (by kernel_rfl)]
  rw [eqFields_of (n + 1) _ _ [(26, 0, a == c), (26, 1, b == d)] _ (by kernel_rfl) (fun s hm => by
    have hna : oneT Try.prog 26 = true := by kernel_rfl
    rcases List.mem_cons.1 hm with rfl | hm
    · exact ⟨_, _, part_one hna rfl, part_one hna rfl, run_equalIn_int w n 26 .u32 .u32 a c Try.underlying26⟩
    · obtain rfl := List.mem_singleton.1 hm
      exact ⟨_, _, part_one hna rfl, part_one hna rfl, run_equalIn_int w n 26 .u32 .u32 b d Try.underlying26⟩)]
  simp only [List.all_cons, List.all_nil, Bool.and_true, Bool.decide_and, bqI]
theorem equal_lb (w : World) (a b c d : Int) : (Op.equal 29 (.agg #[Value.int .u32 a, Value.int .u32 b]) (.agg #[Value.int .u32 c, Value.int .u32 d])).run Try.prog w = .ok (decide (a = c ∧ b = d)) w := equalIn_lb w 9998 a b c d
theorem equal_hv (w : World) (x y : Hv) : (Op.equal 55 (.agg (hvC x).toArray) (.agg (hvC y).toArray)).run Try.prog w = .ok (decide (x = y)) w := by
  show (Op.equalIn (9999 + 1) 55 _ _).run Try.prog w = _
  rw [run_equalIn_struct w 9999 55 _ _ (by kernel_rfl) (by kernel_rfl)]
  rw [eqFields_of 9999 _ _ [(29, 0, decide (x.1 = y.1 ∧ x.2.1 = y.2.1)), (26, 2, x.2.2 == y.2.2)] _ (by kernel_rfl) (fun s hm => by
    rcases List.mem_cons.1 hm with rfl | hm
    · exact ⟨_, _, part_agg (n := 2) (by kernel_rfl) (by kernel_rfl) rfl, part_agg (n := 2) (by kernel_rfl) (by kernel_rfl) rfl, equalIn_lb w 9997 x.1 x.2.1 y.1 y.2.1⟩
    · obtain rfl := List.mem_singleton.1 hm
      have hna : oneT Try.prog 26 = true := by kernel_rfl
      exact ⟨_, _, part_one hna rfl, part_one hna rfl, run_equalIn_int w 9998 26 .u32 .u32 x.2.2 y.2.2 Try.underlying26⟩)]
  obtain ⟨a, b, c⟩ := x
  obtain ⟨a', b', c'⟩ := y
  simp only [List.all_cons, List.all_nil, Bool.and_true, bqI, ← Bool.decide_and, Prod.mk.injEq, and_assoc]
theorem ext16 (a b : Value) (l : List Value) (hl : l.length = 16) : (a :: b :: l).toArray.extract 2 (2 + 16) = l.toArray := by
  apply Array.ext'
  rw [Array.toList_extract]
  simp [List.extract, ← hl]
theorem equal_it (w : World) (x y : It) (hx : x.2.2.length = 16) (hy : y.2.2.length = 16) : (Op.equal 53 (.agg (itC x).toArray) (.agg (itC y).toArray)).run Try.prog w = .ok (decide (x = y)) w := by
  show (Op.equalIn (9999 + 1) 53 _ _).run Try.prog w = _
  rw [run_equalIn_struct w 9999 53 _ _ (by kernel_rfl) (by kernel_rfl)]
  rw [eqFields_of 9999 _ _ [(3, 0, x.1 == y.1), (4, 1, x.2.1 == y.2.1), (51, 2, decide (x.2.2.map bv = y.2.2.map bv))] _ (by kernel_rfl) (fun s hm => by
    rcases List.mem_cons.1 hm with rfl | hm
    · have hna : oneT Try.prog 3 = true := by kernel_rfl
      exact ⟨_, _, part_one hna rfl, part_one hna rfl, run_equalIn_int w 9998 3 .i64 .i64 x.1 y.1 Try.underlying3⟩
    · rcases List.mem_cons.1 hm with rfl | hm
      · have hna : oneT Try.prog 4 = true := by kernel_rfl
        exact ⟨_, _, part_one hna rfl, part_one hna rfl, run_equalIn_bool w 9998 4 x.2.1 y.2.1 Try.underlying4⟩
      · obtain rfl := List.mem_singleton.1 hm
        have l1 : (nums .u8 (x.2.2.map bv)).length = 16 := by rw [nums_length, List.length_map, hx]
        have l2 : (nums .u8 (y.2.2.map bv)).length = 16 := by rw [nums_length, List.length_map, hy]
        exact ⟨_, _, part_agg (n := 16) (by kernel_rfl) (by kernel_rfl) (ext16 _ _ _ l1), part_agg (n := 16) (by kernel_rfl) (by kernel_rfl) (ext16 _ _ _ l2), equalIn_nums (e := 5) (by kernel_rfl) (by kernel_rfl) (by kernel_rfl) (by kernel_rfl) _ _ (by rw [List.length_map, hx]) (by rw [List.length_map, hy]) 9997⟩)]
  obtain ⟨a, b, c⟩ := x
  obtain ⟨a', b', c'⟩ := y
  have e3 : decide (c.map bv = c'.map bv) = decide (c = c') := decide_eq_decide.2 ⟨fun h => map_bvI h, fun h => by rw [h]⟩
  simp only [List.all_cons, List.all_nil, Bool.and_true, bqI, e3, Prod.mk.injEq, Bool.decide_and]
  cases b <;> cases b' <;> simp
theorem take_eq {α : Type} {es fs : List α} {j : Nat} {x y : α} (h : es.take j = fs.take j) (hx : es[j]? = some x) (hy : fs[j]? = some y) (he : x = y) : es.take (j + 1) = fs.take (j + 1) := by
  subst he
  obtain ⟨h1, e1⟩ := List.getElem?_eq_some_iff.1 hx
  obtain ⟨h2, e2⟩ := List.getElem?_eq_some_iff.1 hy
  rw [List.take_succ_eq_append_getElem h1, List.take_succ_eq_append_getElem h2, h, e1, e2]
def hdB (m n : Mg) : Bool := decide (m.k = n.k) && decide (m.e = n.e) && decide (m.s = n.s) && decide (m.te = n.te ∧ m.ts = n.ts) && decide (m.be = n.be ∧ m.bs = n.bs)
def rtB (m n : Mg) : Bool := decide (m.ix = n.ix) && decide (m.tt = n.tt) && decide (m.tk = n.tk)
def smB (m n : Mg) : Bool := hdB m n && rtB m n && decide (m.its = n.its) && decide (m.hvs = n.hvs)
theorem smB_iff {m n : Mg} : smB m n = true ↔ m = n := by
  unfold smB hdB rtB
  simp only [Bool.and_eq_true, decide_eq_true_eq]
  constructor
  · rintro ⟨⟨⟨⟨⟨⟨⟨a, b⟩, c⟩, d, e⟩, f, g⟩, ⟨h, i⟩, j⟩, k⟩, l⟩
    cases m; cases n
    simp only at a b c d e f g h i j k l
    subst a b c d e f g h i j k l
    rfl
  · rintro rfl
    simp
theorem smB_self (m : Mg) : smB m m = true := smB_iff.2 rfl
theorem fst5 (a b c d e : Prop) : ¬ a ∨ (a ∧ ¬ b) ∨ (a ∧ b ∧ ¬ c) ∨ (a ∧ b ∧ c ∧ ¬ d) ∨ (a ∧ b ∧ c ∧ d ∧ ¬ e) ∨ (a ∧ b ∧ c ∧ d ∧ e) := by
  by_cases a <;> by_cases b <;> by_cases c <;> by_cases d <;> by_cases e <;> simp [*]
theorem fst3 (a b c : Prop) : ¬ a ∨ (a ∧ ¬ b) ∨ (a ∧ b ∧ ¬ c) ∨ (a ∧ b ∧ c) := by
  by_cases a <;> by_cases b <;> by_cases c <;> simp [*]
theorem fstB (a b : Bool) (c : Prop) [Decidable c] : a = false ∨ (a = true ∧ b = false) ∨ (a = true ∧ b = true ∧ ¬ c) ∨ (a = true ∧ b = true ∧ c) := by
  by_cases h : c <;> cases a <;> cases b <;> simp [h]
theorem eql_yes {a b : Int} (h : a = b) : cmpB .eql a b = true := by subst h; simp [cmpB]
theorem eql_no {a b : Int} (h : ¬ a = b) : cmpB .eql a b = false := by simp [cmpB, h]
theorem eqI {a b : Int} (h : a = b) : cmpB .neq a b = false := by subst h; simp [cmpB]
theorem neqI {a b : Int} (h : ¬ a = b) : cmpB .neq a b = true := by simp [cmpB, h]
set_option maxRecDepth 10000 in
set_option maxHeartbeats 1000000 in
theorem its_equal (w : World) (A : Option Addr) (c : Nat) (es : List It) (hr : kIt.C w A es.length es) (B : Option Addr) (d : Nat) (fs : List It) (hr2 : kIt.C w B fs.length fs) (hl : es.length ≤ 1000) (hl2 : fs.length ≤ 1000) : Calls Try.prog 38 #[.slice A es.length c, .slice B fs.length d] w fun e w' => e = .returned (.bool (decide (es = fs))) ∧ Below w.heap.size w w' := by
  have HS := St.empty w
  by_cases hln : es.length = fs.length
  · skip
    refine c_enter Try.func38 rfl 26 rfl (.slice A es.length c :: .slice B fs.length d :: U16f7 (U8f7 ([]))) rfl ?_
    refine wp_seq_k (fun K1 hK2 => ?_)
    refine c_region (fun ops4 hops3 => ?_)
    clear hops3
    refine p_run _ (x_assign (.bool false) rfl rfl) rfl ?_
    refine wpList_nil ?_
    refine hK2 _ _ ?_
    refine wp_seq_k (fun K5 hK6 => ?_)
    refine wp_seq_k (fun K7 hK8 => ?_)
    refine c_region (fun ops10 hops9 => ?_)
    clear hops9
    refine p_run _ (x_move (.slice A es.length c) rfl rfl) rfl ?_
    refine p_run _ (x_len rfl rfl Try.underlying30) rfl ?_
    refine p_run _ (x_move (.slice B fs.length d) rfl rfl) rfl ?_
    refine p_run _ (x_len rfl rfl Try.underlying30) rfl ?_
    refine p_run _ (x_cmp (k := .i64) (m := (es.length : Int)) (n := (fs.length : Int)) .neq false rfl rfl rfl (eqI (by omega)) rfl) rfl ?_
    refine wpList_nil ?_
    refine fr_at (l' := (.slice A es.length c :: .slice B fs.length d :: undef :: undef :: .bool false :: undef :: .slice A es.length c :: .int .i64 (es.length : Int) :: .slice B fs.length d :: .int .i64 (fs.length : Int) :: .bool false :: U8f7 (U4f7 (undef :: undef :: undef :: [])))) rfl ?_
    refine hK8 _ _ ?_
    refine c_false rfl ?_
    refine wp_skip ?_
    refine hK6 _ _ ?_
    refine wp_seq_k (fun K11 hK12 => ?_)
    refine wp_seq_k (fun K13 hK14 => ?_)
    refine c_region (fun ops16 hops15 => ?_)
    clear hops15
    refine p_run _ (x_move (.slice A es.length c) rfl rfl) rfl ?_
    refine p_run _ (x_len rfl rfl Try.underlying30) rfl ?_
    refine p_run _ (x_move (.int .i64 0) rfl rfl) rfl ?_
    refine wpList_nil ?_
    refine fr_at (l' := (.slice A es.length c :: .slice B fs.length d :: undef :: undef :: .bool false :: undef :: .slice A es.length c :: .int .i64 (es.length : Int) :: .slice B fs.length d :: .int .i64 (fs.length : Int) :: .bool false :: .slice A es.length c :: .int .i64 (es.length : Int) :: .int .i64 0 :: U8f7 (U4f7 ([])))) rfl ?_
    refine hK14 _ _ ?_
    refine wp_block ?_
    refine c_loop (ι := Nat) (fun i_ a_ w_ => match i_ with | j => ∃ (u4 : Value) (u5 : Value) (u14 : Value) (u15 : Value) (u16 : Value) (u17 : Value) (u18 : Value) (u19 : Value) (u20 : Value) (u21 : Value) (u22 : Value) (u23 : Value) (u24 : Value) (u25 : Value), a_ = fr (.slice A es.length c :: .slice B fs.length d :: undef :: undef :: u4 :: u5 :: .slice A es.length c :: .int .i64 (es.length : Int) :: .slice B fs.length d :: .int .i64 (fs.length : Int) :: .bool false :: .slice A es.length c :: .int .i64 (es.length : Int) :: .int .i64 (j : Int) :: u14 :: u15 :: u16 :: u17 :: u18 :: u19 :: u20 :: u21 :: u22 :: u23 :: u24 :: u25 :: []) ∧ St w (fun _ => False) w_ ([]) ∧ (j ≤ es.length ∧ es.take j = fs.take j)) (fun i_ => match i_ with | j => es.length - j) 0 ?_ ?_
    · exact ⟨_, _, _, _, _, _, _, _, _, _, _, _, _, _, rfl, HS, ⟨by omega, rfl⟩⟩
    · clear HS
      rintro j a_ w19 ⟨u4, u5, u14, u15, u16, u17, u18, u19, u20, u21, u22, u23, u24, u25, rfl, HS, hI⟩ J17 hJ18
      have hjl := hI.1
      refine wp_seq_k (fun K20 hK21 => ?_)
      refine c_region (fun ops23 hops22 => ?_)
      clear hops22
      refine p_run _ (x_cmp (k := .i64) (m := (j : Int)) (n := (es.length : Int)) .lss (decide ((j : Int) < (es.length : Int))) rfl rfl rfl rfl rfl) rfl ?_
      refine wpList_nil ?_
      refine hK21 _ _ ?_
      refine wp_seq_k (fun K24 hK25 => ?_)
      refine c_cond (t := decide ((j : Int) < (es.length : Int))) rfl (fun hc26 => ?_) (fun hc26 => ?_)
      · have hlt : j < es.length := by have := of_decide_eq_true hc26; omega
        obtain ⟨ad, x, rfl, hx, hx16, -⟩ := it_get (Kd.C_below hr HS.belowOf) j hlt
        obtain ⟨ae, y, rfl, hy, hy16, -⟩ := it_get (Kd.C_below hr2 HS.belowOf) j (by omega)
        refine wp_skip ?_
        refine hK25 _ _ ?_
        refine wp_seq_k (fun K27 hK28 => ?_)
        refine wp_block ?_
        refine wp_seq_k (fun K29 hK30 => ?_)
        refine c_region (fun ops32 hops31 => ?_)
        clear hops31
        refine p_run _ (x_move (.int .i64 (j : Int)) rfl rfl) rfl ?_
        refine p_run _ (x_assign (.int .i64 (j : Int)) rfl rfl) rfl ?_
        refine wpList_nil ?_
        refine hK30 _ _ ?_
        refine wp_seq_k (fun K33 hK34 => ?_)
        by_cases hxy : x = y
        · skip
          refine free_frame (n := 9) (T := _) [0, 0, 3, 7, 0, 0, 48, 112, 255] [(0, 16), (1, 17), (2, 18), (3, 19), (4, 20), (5, 21), (6, 22), (7, 23), (8, 24)] (fun bq_ vq_ w_ => qv ((fun i_ => match i_ with | 0 => some (.slice (some ad) es.length c) | 1 => some (.int .i64 (j : Int)) | 2 => some (.pointer (some ((ad).add (j * 18)))) | 3 => some (.agg (Value.int .i64 x.1 :: Value.bool x.2.1 :: (nums .u8 (x.2.2.map bv))).toArray) | 4 => some (.slice (some ae) fs.length d) | 5 => some (.int .i64 (j : Int)) | 6 => some (.pointer (some ((ae).add (j * 18)))) | 7 => some (.agg (Value.int .i64 y.1 :: Value.bool y.2.1 :: (nums .u8 (y.2.2.map bv))).toArray) | 8 => some (.bool false) | _ => none) : Nat → Option Value) bq_ vq_ ∧ (St w (fun _ => False) w_ ([]))) (by kernel_rfl) rfl rfl (by kernel_rfl) (by kernel_rfl) rfl (by kernel_rfl) (by kernel_rfl) ⟨qv_none, HS.draw⟩ ?_ ?_
          · clear HS
            intro i_ hi_ bq_ vq_ a_ w_ hG hb_ hon hoff hfr hel hval
            obtain ⟨hV, hE⟩ := hG
            have hi_ := List.mem_range.1 hi_
            obtain ⟨l_, rfl⟩ := hfr
            have hv_ := fun (j t : Nat) (v : Value) (h1 : (j, t) ∈ [(0, 16), (1, 17), (2, 18), (3, 19), (4, 20), (5, 21), (6, 22), (7, 23), (8, 24)]) h2 h3 => (hval (j, t) h1 h3).trans (congrArg some (hV j v h2 h3))
            have hcs : i_ = 0 ∨ i_ = 1 ∨ i_ = 2 ∨ i_ = 3 ∨ i_ = 4 ∨ i_ = 5 ∨ i_ = 6 ∨ i_ = 7 ∨ i_ = 8 := by omega
            rcases hcs with rfl | rfl | rfl | rfl | rfl | rfl | rfl | rfl | rfl
            · have e0 : evl l_ (.tmp 0) = .slice (some ad) es.length c := evl_of ((hel 0 (by decide)).trans rfl)
              exact ⟨_, rfl, fun K_ hK_ => q_op _ (x_move (.slice (some ad) es.length c) rfl e0) (hK_ _ _ ⟨qv_up hV (fun _ h => Option.some.inj h), hE⟩)⟩
            · have e5 : evl l_ (.tmp 5) = .int .i64 (j : Int) := evl_of ((hel 5 (by decide)).trans rfl)
              exact ⟨_, rfl, fun K_ hK_ => q_op _ (x_move (.int .i64 (j : Int)) rfl e5) (hK_ _ _ ⟨qv_up hV (fun _ h => Option.some.inj h), hE⟩)⟩
            · have e16 : evl l_ (.tmp 16) = .slice (some ad) es.length c := evl_of (hv_ 0 16 _ (by decide) rfl (hon 0 (by decide)))
              have e17 : evl l_ (.tmp 17) = .int .i64 (j : Int) := evl_of (hv_ 1 17 _ (by decide) rfl (hon 1 (by decide)))
              exact ⟨_, rfl, fun K_ hK_ => q_op _ (x_index (A := ad) (j := j * 18) (sz := 18) rfl e16 e17 Try.underlying30 (by kernel_rfl) (by omega) rfl) (hK_ _ _ ⟨qv_up hV (fun _ h => Option.some.inj h), hE⟩)⟩
            · have hE0 := hE
              have HS := hE0
              have e18 : evl l_ (.tmp 18) = .pointer (some ((ad).add (j * 18))) := evl_of (hv_ 2 18 _ (by decide) rfl (hon 2 (by decide)))
              exact ⟨_, rfl, fun K_ hK_ => q_op _ (x_loads (Value.int .i64 x.1 :: Value.bool x.2.1 :: (nums .u8 (x.2.2.map bv))) 18 rfl e18 (it_cells (Kd.C_below hr HS.belowOf) hx) (by rfl) (by kernel_rfl) (by simp [List.length_map, hx16, nums_length])) (hK_ _ _ ⟨qv_up hV (fun _ h => Option.some.inj h), hE⟩)⟩
            · have e1 : evl l_ (.tmp 1) = .slice (some ae) fs.length d := evl_of ((hel 1 (by decide)).trans rfl)
              exact ⟨_, rfl, fun K_ hK_ => q_op _ (x_move (.slice (some ae) fs.length d) rfl e1) (hK_ _ _ ⟨qv_up hV (fun _ h => Option.some.inj h), hE⟩)⟩
            · have e5 : evl l_ (.tmp 5) = .int .i64 (j : Int) := evl_of ((hel 5 (by decide)).trans rfl)
              exact ⟨_, rfl, fun K_ hK_ => q_op _ (x_move (.int .i64 (j : Int)) rfl e5) (hK_ _ _ ⟨qv_up hV (fun _ h => Option.some.inj h), hE⟩)⟩
            · have e20 : evl l_ (.tmp 20) = .slice (some ae) fs.length d := evl_of (hv_ 4 20 _ (by decide) rfl (hon 4 (by decide)))
              have e21 : evl l_ (.tmp 21) = .int .i64 (j : Int) := evl_of (hv_ 5 21 _ (by decide) rfl (hon 5 (by decide)))
              exact ⟨_, rfl, fun K_ hK_ => q_op _ (x_index (A := ae) (j := j * 18) (sz := 18) rfl e20 e21 Try.underlying30 (by kernel_rfl) (by omega) rfl) (hK_ _ _ ⟨qv_up hV (fun _ h => Option.some.inj h), hE⟩)⟩
            · have hE0 := hE
              have HS := hE0
              have e22 : evl l_ (.tmp 22) = .pointer (some ((ae).add (j * 18))) := evl_of (hv_ 6 22 _ (by decide) rfl (hon 6 (by decide)))
              exact ⟨_, rfl, fun K_ hK_ => q_op _ (x_loads (Value.int .i64 y.1 :: Value.bool y.2.1 :: (nums .u8 (y.2.2.map bv))) 18 rfl e22 (it_cells (Kd.C_below hr2 HS.belowOf) hy) (by rfl) (by kernel_rfl) (by simp [List.length_map, hy16, nums_length])) (hK_ _ _ ⟨qv_up hV (fun _ h => Option.some.inj h), hE⟩)⟩
            · have hE0 := hE
              have HS := hE0
              have e19 : evl l_ (.tmp 19) = .agg (Value.int .i64 x.1 :: Value.bool x.2.1 :: (nums .u8 (x.2.2.map bv))).toArray := evl_of (hv_ 3 19 _ (by decide) rfl (hon 3 (by decide)))
              have e23 : evl l_ (.tmp 23) = .agg (Value.int .i64 y.1 :: Value.bool y.2.1 :: (nums .u8 (y.2.2.map bv))).toArray := evl_of (hv_ 7 23 _ (by decide) rfl (hon 7 (by decide)))
              exact ⟨_, rfl, fun K_ hK_ => q_op _ (x_eq .neq (.agg (Value.int .i64 x.1 :: Value.bool x.2.1 :: (nums .u8 (x.2.2.map bv))).toArray) (.agg (Value.int .i64 y.1 :: Value.bool y.2.1 :: (nums .u8 (y.2.2.map bv))).toArray) (decide (x = y)) false rfl e19 e23 (equal_it _ x y hx16 hy16) (by rw [decide_eq_true hxy]; rfl) rfl (guard_agg (by kernel_rfl)) (guard_agg (by kernel_rfl))) (hK_ _ _ ⟨qv_up hV (fun _ h => Option.some.inj h), hE⟩)⟩
          intro bq_ vq_ w_ hall hG
          obtain ⟨hV, hE⟩ := hG
          clear HS
          have HS := hE
          have hv0 := hV 0 _ rfl (hall 0 (by decide))
          have hv1 := hV 1 _ rfl (hall 1 (by decide))
          have hv2 := hV 2 _ rfl (hall 2 (by decide))
          have hv3 := hV 3 _ rfl (hall 3 (by decide))
          have hv4 := hV 4 _ rfl (hall 4 (by decide))
          have hv5 := hV 5 _ rfl (hall 5 (by decide))
          have hv6 := hV 6 _ rfl (hall 6 (by decide))
          have hv7 := hV 7 _ rfl (hall 7 (by decide))
          have hv8 := hV 8 _ rfl (hall 8 (by decide))
          clear hV hall
          rw [putSel_fr]
          simp only [tells, List.map_cons, List.map_nil, setAll, List.set_cons_succ, List.set_cons_zero, hv0, hv1, hv2, hv3, hv4, hv5, hv6, hv7, hv8]
          clear hv0 hv1 hv2 hv3 hv4 hv5 hv6 hv7 hv8
          generalize w_ = w900801 at HS ⊢
          refine fr_at (l' := (.slice (some ad) es.length c :: .slice (some ae) fs.length d :: undef :: undef :: u4 :: .int .i64 (j : Int) :: .slice (some ad) es.length c :: .int .i64 (es.length : Int) :: .slice (some ae) fs.length d :: .int .i64 (fs.length : Int) :: .bool false :: .slice (some ad) es.length c :: .int .i64 (es.length : Int) :: .int .i64 (j : Int) :: .bool (decide ((j : Int) < (es.length : Int))) :: .int .i64 (j : Int) :: .slice (some ad) es.length c :: .int .i64 (j : Int) :: .pointer (some ((ad).add (j * 18))) :: .agg (Value.int .i64 x.1 :: Value.bool x.2.1 :: (nums .u8 (x.2.2.map bv))).toArray :: .slice (some ae) fs.length d :: .int .i64 (j : Int) :: .pointer (some ((ae).add (j * 18))) :: .agg (Value.int .i64 y.1 :: Value.bool y.2.1 :: (nums .u8 (y.2.2.map bv))).toArray :: .bool false :: u25 :: [])) rfl ?_
          refine hK34 _ _ ?_
          refine c_false rfl ?_
          refine wp_skip ?_
          refine hK28 _ _ ?_
          refine c_region (fun ops900803 hops900802 => ?_)
          clear hops900802
          refine p_run _ (x_arith (k := .i64) (m := (j : Int)) (n := 1) .add (((j + 1 : Nat) : Int)) rfl rfl rfl (show IntKind.i64.wrap ((j : Int) + 1) = ((j + 1 : Nat) : Int) from ((wr64' (by omega)).trans (by omega))) rfl) rfl ?_
          refine p_run _ (x_move (.int .i64 ((j + 1 : Nat) : Int)) rfl rfl) rfl ?_
          refine wpList_nil ?_
          refine fr_at (l' := (.slice (some ad) es.length c :: .slice (some ae) fs.length d :: undef :: undef :: u4 :: .int .i64 (j : Int) :: .slice (some ad) es.length c :: .int .i64 (es.length : Int) :: .slice (some ae) fs.length d :: .int .i64 (fs.length : Int) :: .bool false :: .slice (some ad) es.length c :: .int .i64 (es.length : Int) :: .int .i64 ((j + 1 : Nat) : Int) :: .bool (decide ((j : Int) < (es.length : Int))) :: .int .i64 (j : Int) :: .slice (some ad) es.length c :: .int .i64 (j : Int) :: .pointer (some ((ad).add (j * 18))) :: .agg (Value.int .i64 x.1 :: Value.bool x.2.1 :: (nums .u8 (x.2.2.map bv))).toArray :: .slice (some ae) fs.length d :: .int .i64 (j : Int) :: .pointer (some ((ae).add (j * 18))) :: .agg (Value.int .i64 y.1 :: Value.bool y.2.1 :: (nums .u8 (y.2.2.map bv))).toArray :: .bool false :: .int .i64 ((j + 1 : Nat) : Int) :: [])) rfl ?_
          refine hJ18 (j + 1) _ _ ?_ ?_
          · show es.length - (j + 1) < es.length - j; omega
          · exact ⟨_, _, _, _, _, _, _, _, _, _, _, _, _, _, rfl, HS, ⟨(by omega), take_eq hI.2 hx hy hxy⟩⟩
        · skip
          refine free_frame (n := 9) (T := _) [0, 0, 3, 7, 0, 0, 48, 112, 255] [(0, 16), (1, 17), (2, 18), (3, 19), (4, 20), (5, 21), (6, 22), (7, 23), (8, 24)] (fun bq_ vq_ w_ => qv ((fun i_ => match i_ with | 0 => some (.slice (some ad) es.length c) | 1 => some (.int .i64 (j : Int)) | 2 => some (.pointer (some ((ad).add (j * 18)))) | 3 => some (.agg (Value.int .i64 x.1 :: Value.bool x.2.1 :: (nums .u8 (x.2.2.map bv))).toArray) | 4 => some (.slice (some ae) fs.length d) | 5 => some (.int .i64 (j : Int)) | 6 => some (.pointer (some ((ae).add (j * 18)))) | 7 => some (.agg (Value.int .i64 y.1 :: Value.bool y.2.1 :: (nums .u8 (y.2.2.map bv))).toArray) | 8 => some (.bool true) | _ => none) : Nat → Option Value) bq_ vq_ ∧ (St w (fun _ => False) w_ ([]))) (by kernel_rfl) rfl rfl (by kernel_rfl) (by kernel_rfl) rfl (by kernel_rfl) (by kernel_rfl) ⟨qv_none, HS.draw⟩ ?_ ?_
          · clear HS
            intro i_ hi_ bq_ vq_ a_ w_ hG hb_ hon hoff hfr hel hval
            obtain ⟨hV, hE⟩ := hG
            have hi_ := List.mem_range.1 hi_
            obtain ⟨l_, rfl⟩ := hfr
            have hv_ := fun (j t : Nat) (v : Value) (h1 : (j, t) ∈ [(0, 16), (1, 17), (2, 18), (3, 19), (4, 20), (5, 21), (6, 22), (7, 23), (8, 24)]) h2 h3 => (hval (j, t) h1 h3).trans (congrArg some (hV j v h2 h3))
            have hcs : i_ = 0 ∨ i_ = 1 ∨ i_ = 2 ∨ i_ = 3 ∨ i_ = 4 ∨ i_ = 5 ∨ i_ = 6 ∨ i_ = 7 ∨ i_ = 8 := by omega
            rcases hcs with rfl | rfl | rfl | rfl | rfl | rfl | rfl | rfl | rfl
            · have e0 : evl l_ (.tmp 0) = .slice (some ad) es.length c := evl_of ((hel 0 (by decide)).trans rfl)
              exact ⟨_, rfl, fun K_ hK_ => q_op _ (x_move (.slice (some ad) es.length c) rfl e0) (hK_ _ _ ⟨qv_up hV (fun _ h => Option.some.inj h), hE⟩)⟩
            · have e5 : evl l_ (.tmp 5) = .int .i64 (j : Int) := evl_of ((hel 5 (by decide)).trans rfl)
              exact ⟨_, rfl, fun K_ hK_ => q_op _ (x_move (.int .i64 (j : Int)) rfl e5) (hK_ _ _ ⟨qv_up hV (fun _ h => Option.some.inj h), hE⟩)⟩
            · have e16 : evl l_ (.tmp 16) = .slice (some ad) es.length c := evl_of (hv_ 0 16 _ (by decide) rfl (hon 0 (by decide)))
              have e17 : evl l_ (.tmp 17) = .int .i64 (j : Int) := evl_of (hv_ 1 17 _ (by decide) rfl (hon 1 (by decide)))
              exact ⟨_, rfl, fun K_ hK_ => q_op _ (x_index (A := ad) (j := j * 18) (sz := 18) rfl e16 e17 Try.underlying30 (by kernel_rfl) (by omega) rfl) (hK_ _ _ ⟨qv_up hV (fun _ h => Option.some.inj h), hE⟩)⟩
            · have hE0 := hE
              have HS := hE0
              have e18 : evl l_ (.tmp 18) = .pointer (some ((ad).add (j * 18))) := evl_of (hv_ 2 18 _ (by decide) rfl (hon 2 (by decide)))
              exact ⟨_, rfl, fun K_ hK_ => q_op _ (x_loads (Value.int .i64 x.1 :: Value.bool x.2.1 :: (nums .u8 (x.2.2.map bv))) 18 rfl e18 (it_cells (Kd.C_below hr HS.belowOf) hx) (by rfl) (by kernel_rfl) (by simp [List.length_map, hx16, nums_length])) (hK_ _ _ ⟨qv_up hV (fun _ h => Option.some.inj h), hE⟩)⟩
            · have e1 : evl l_ (.tmp 1) = .slice (some ae) fs.length d := evl_of ((hel 1 (by decide)).trans rfl)
              exact ⟨_, rfl, fun K_ hK_ => q_op _ (x_move (.slice (some ae) fs.length d) rfl e1) (hK_ _ _ ⟨qv_up hV (fun _ h => Option.some.inj h), hE⟩)⟩
            · have e5 : evl l_ (.tmp 5) = .int .i64 (j : Int) := evl_of ((hel 5 (by decide)).trans rfl)
              exact ⟨_, rfl, fun K_ hK_ => q_op _ (x_move (.int .i64 (j : Int)) rfl e5) (hK_ _ _ ⟨qv_up hV (fun _ h => Option.some.inj h), hE⟩)⟩
            · have e20 : evl l_ (.tmp 20) = .slice (some ae) fs.length d := evl_of (hv_ 4 20 _ (by decide) rfl (hon 4 (by decide)))
              have e21 : evl l_ (.tmp 21) = .int .i64 (j : Int) := evl_of (hv_ 5 21 _ (by decide) rfl (hon 5 (by decide)))
              exact ⟨_, rfl, fun K_ hK_ => q_op _ (x_index (A := ae) (j := j * 18) (sz := 18) rfl e20 e21 Try.underlying30 (by kernel_rfl) (by omega) rfl) (hK_ _ _ ⟨qv_up hV (fun _ h => Option.some.inj h), hE⟩)⟩
            · have hE0 := hE
              have HS := hE0
              have e22 : evl l_ (.tmp 22) = .pointer (some ((ae).add (j * 18))) := evl_of (hv_ 6 22 _ (by decide) rfl (hon 6 (by decide)))
              exact ⟨_, rfl, fun K_ hK_ => q_op _ (x_loads (Value.int .i64 y.1 :: Value.bool y.2.1 :: (nums .u8 (y.2.2.map bv))) 18 rfl e22 (it_cells (Kd.C_below hr2 HS.belowOf) hy) (by rfl) (by kernel_rfl) (by simp [List.length_map, hy16, nums_length])) (hK_ _ _ ⟨qv_up hV (fun _ h => Option.some.inj h), hE⟩)⟩
            · have hE0 := hE
              have HS := hE0
              have e19 : evl l_ (.tmp 19) = .agg (Value.int .i64 x.1 :: Value.bool x.2.1 :: (nums .u8 (x.2.2.map bv))).toArray := evl_of (hv_ 3 19 _ (by decide) rfl (hon 3 (by decide)))
              have e23 : evl l_ (.tmp 23) = .agg (Value.int .i64 y.1 :: Value.bool y.2.1 :: (nums .u8 (y.2.2.map bv))).toArray := evl_of (hv_ 7 23 _ (by decide) rfl (hon 7 (by decide)))
              exact ⟨_, rfl, fun K_ hK_ => q_op _ (x_eq .neq (.agg (Value.int .i64 x.1 :: Value.bool x.2.1 :: (nums .u8 (x.2.2.map bv))).toArray) (.agg (Value.int .i64 y.1 :: Value.bool y.2.1 :: (nums .u8 (y.2.2.map bv))).toArray) (decide (x = y)) true rfl e19 e23 (equal_it _ x y hx16 hy16) (by rw [decide_eq_false hxy]; rfl) rfl (guard_agg (by kernel_rfl)) (guard_agg (by kernel_rfl))) (hK_ _ _ ⟨qv_up hV (fun _ h => Option.some.inj h), hE⟩)⟩
          intro bq_ vq_ w_ hall hG
          obtain ⟨hV, hE⟩ := hG
          clear HS
          have HS := hE
          have hv0 := hV 0 _ rfl (hall 0 (by decide))
          have hv1 := hV 1 _ rfl (hall 1 (by decide))
          have hv2 := hV 2 _ rfl (hall 2 (by decide))
          have hv3 := hV 3 _ rfl (hall 3 (by decide))
          have hv4 := hV 4 _ rfl (hall 4 (by decide))
          have hv5 := hV 5 _ rfl (hall 5 (by decide))
          have hv6 := hV 6 _ rfl (hall 6 (by decide))
          have hv7 := hV 7 _ rfl (hall 7 (by decide))
          have hv8 := hV 8 _ rfl (hall 8 (by decide))
          clear hV hall
          rw [putSel_fr]
          simp only [tells, List.map_cons, List.map_nil, setAll, List.set_cons_succ, List.set_cons_zero, hv0, hv1, hv2, hv3, hv4, hv5, hv6, hv7, hv8]
          clear hv0 hv1 hv2 hv3 hv4 hv5 hv6 hv7 hv8
          generalize w_ = w900801 at HS ⊢
          refine fr_at (l' := (.slice (some ad) es.length c :: .slice (some ae) fs.length d :: undef :: undef :: u4 :: .int .i64 (j : Int) :: .slice (some ad) es.length c :: .int .i64 (es.length : Int) :: .slice (some ae) fs.length d :: .int .i64 (fs.length : Int) :: .bool false :: .slice (some ad) es.length c :: .int .i64 (es.length : Int) :: .int .i64 (j : Int) :: .bool (decide ((j : Int) < (es.length : Int))) :: .int .i64 (j : Int) :: .slice (some ad) es.length c :: .int .i64 (j : Int) :: .pointer (some ((ad).add (j * 18))) :: .agg (Value.int .i64 x.1 :: Value.bool x.2.1 :: (nums .u8 (x.2.2.map bv))).toArray :: .slice (some ae) fs.length d :: .int .i64 (j : Int) :: .pointer (some ((ae).add (j * 18))) :: .agg (Value.int .i64 y.1 :: Value.bool y.2.1 :: (nums .u8 (y.2.2.map bv))).toArray :: .bool true :: u25 :: [])) rfl ?_
          refine hK34 _ _ ?_
          refine c_true rfl ?_
          refine wp_seq_k (fun K900802 hK900803 => ?_)
          refine c_region (fun ops900805 hops900804 => ?_)
          clear hops900804
          refine p_run _ (x_assign (.bool false) rfl rfl) rfl ?_
          refine wpList_nil ?_
          refine hK900803 _ _ ?_
          refine wp_ret ?_
          try simp only [Exit.inBlock, Exit.then]
          refine c_ret (.bool false) (r_tmp rfl rfl) ?_
          have hne : decide (es = fs) = false := decide_eq_false (fun h => hxy (by rw [h, hy] at hx; injection hx with hx; exact hx.symm))
          rw [hne]
          exact ⟨rfl, HS.belowOf⟩
      · have hlt : j = es.length := by have := of_decide_eq_false hc26; omega
        subst hlt
        refine wp_exit ?_
        refine hK12 _ _ ?_
        refine wp_seq_k (fun K900806 hK900807 => ?_)
        refine c_region (fun ops900809 hops900808 => ?_)
        clear hops900808
        refine p_run _ (x_assign (.bool true) rfl rfl) rfl ?_
        refine wpList_nil ?_
        refine hK900807 _ _ ?_
        refine wp_ret ?_
        try simp only [Exit.inBlock, Exit.then]
        refine c_ret (.bool true) (r_tmp rfl rfl) ?_
        have hne : decide (es = fs) = true := decide_eq_true (by have h := hI.2; rw [List.take_length, hln, List.take_length] at h; exact h)
        rw [hne]
        exact ⟨rfl, HS.belowOf⟩
  · skip
    refine c_enter Try.func38 rfl 26 rfl (.slice A es.length c :: .slice B fs.length d :: U16f7 (U8f7 ([]))) rfl ?_
    refine wp_seq_k (fun K1 hK2 => ?_)
    refine c_region (fun ops4 hops3 => ?_)
    clear hops3
    refine p_run _ (x_assign (.bool false) rfl rfl) rfl ?_
    refine wpList_nil ?_
    refine hK2 _ _ ?_
    refine wp_seq_k (fun K5 hK6 => ?_)
    refine wp_seq_k (fun K7 hK8 => ?_)
    refine c_region (fun ops10 hops9 => ?_)
    clear hops9
    refine p_run _ (x_move (.slice A es.length c) rfl rfl) rfl ?_
    refine p_run _ (x_len rfl rfl Try.underlying30) rfl ?_
    refine p_run _ (x_move (.slice B fs.length d) rfl rfl) rfl ?_
    refine p_run _ (x_len rfl rfl Try.underlying30) rfl ?_
    refine p_run _ (x_cmp (k := .i64) (m := (es.length : Int)) (n := (fs.length : Int)) .neq true rfl rfl rfl (neqI (by omega)) rfl) rfl ?_
    refine wpList_nil ?_
    refine fr_at (l' := (.slice A es.length c :: .slice B fs.length d :: undef :: undef :: .bool false :: undef :: .slice A es.length c :: .int .i64 (es.length : Int) :: .slice B fs.length d :: .int .i64 (fs.length : Int) :: .bool true :: U8f7 (U4f7 (undef :: undef :: undef :: [])))) rfl ?_
    refine hK8 _ _ ?_
    refine c_true rfl ?_
    refine wp_seq_k (fun K11 hK12 => ?_)
    refine c_region (fun ops14 hops13 => ?_)
    clear hops13
    refine p_run _ (x_assign (.bool false) rfl rfl) rfl ?_
    refine wpList_nil ?_
    refine hK12 _ _ ?_
    refine wp_ret ?_
    try simp only [Exit.inBlock, Exit.then]
    refine c_ret (.bool false) (r_tmp rfl rfl) ?_
    have hne : decide (es = fs) = false := decide_eq_false (fun h => hln (by rw [h]))
    rw [hne]
    exact ⟨rfl, HS.belowOf⟩
set_option maxRecDepth 10000 in
set_option maxHeartbeats 1000000 in
theorem hvs_equal (w : World) (A : Option Addr) (c : Nat) (es : List Hv) (hr : kHv.C w A es.length es) (B : Option Addr) (d : Nat) (fs : List Hv) (hr2 : kHv.C w B fs.length fs) (hl : es.length ≤ 1000) (hl2 : fs.length ≤ 1000) : Calls Try.prog 39 #[.slice A es.length c, .slice B fs.length d] w fun e w' => e = .returned (.bool (decide (es = fs))) ∧ Below w.heap.size w w' := by
  have HS := St.empty w
  by_cases hln : es.length = fs.length
  · skip
    refine c_enter Try.func39 rfl 26 rfl (.slice A es.length c :: .slice B fs.length d :: U16f7 (U8f7 ([]))) rfl ?_
    refine wp_seq_k (fun K1 hK2 => ?_)
    refine c_region (fun ops4 hops3 => ?_)
    clear hops3
    refine p_run _ (x_assign (.bool false) rfl rfl) rfl ?_
    refine wpList_nil ?_
    refine hK2 _ _ ?_
    refine wp_seq_k (fun K5 hK6 => ?_)
    refine wp_seq_k (fun K7 hK8 => ?_)
    refine c_region (fun ops10 hops9 => ?_)
    clear hops9
    refine p_run _ (x_move (.slice A es.length c) rfl rfl) rfl ?_
    refine p_run _ (x_len rfl rfl Try.underlying31) rfl ?_
    refine p_run _ (x_move (.slice B fs.length d) rfl rfl) rfl ?_
    refine p_run _ (x_len rfl rfl Try.underlying31) rfl ?_
    refine p_run _ (x_cmp (k := .i64) (m := (es.length : Int)) (n := (fs.length : Int)) .neq false rfl rfl rfl (eqI (by omega)) rfl) rfl ?_
    refine wpList_nil ?_
    refine fr_at (l' := (.slice A es.length c :: .slice B fs.length d :: undef :: undef :: .bool false :: undef :: .slice A es.length c :: .int .i64 (es.length : Int) :: .slice B fs.length d :: .int .i64 (fs.length : Int) :: .bool false :: U8f7 (U4f7 (undef :: undef :: undef :: [])))) rfl ?_
    refine hK8 _ _ ?_
    refine c_false rfl ?_
    refine wp_skip ?_
    refine hK6 _ _ ?_
    refine wp_seq_k (fun K11 hK12 => ?_)
    refine wp_seq_k (fun K13 hK14 => ?_)
    refine c_region (fun ops16 hops15 => ?_)
    clear hops15
    refine p_run _ (x_move (.slice A es.length c) rfl rfl) rfl ?_
    refine p_run _ (x_len rfl rfl Try.underlying31) rfl ?_
    refine p_run _ (x_move (.int .i64 0) rfl rfl) rfl ?_
    refine wpList_nil ?_
    refine fr_at (l' := (.slice A es.length c :: .slice B fs.length d :: undef :: undef :: .bool false :: undef :: .slice A es.length c :: .int .i64 (es.length : Int) :: .slice B fs.length d :: .int .i64 (fs.length : Int) :: .bool false :: .slice A es.length c :: .int .i64 (es.length : Int) :: .int .i64 0 :: U8f7 (U4f7 ([])))) rfl ?_
    refine hK14 _ _ ?_
    refine wp_block ?_
    refine c_loop (ι := Nat) (fun i_ a_ w_ => match i_ with | j => ∃ (u4 : Value) (u5 : Value) (u14 : Value) (u15 : Value) (u16 : Value) (u17 : Value) (u18 : Value) (u19 : Value) (u20 : Value) (u21 : Value) (u22 : Value) (u23 : Value) (u24 : Value) (u25 : Value), a_ = fr (.slice A es.length c :: .slice B fs.length d :: undef :: undef :: u4 :: u5 :: .slice A es.length c :: .int .i64 (es.length : Int) :: .slice B fs.length d :: .int .i64 (fs.length : Int) :: .bool false :: .slice A es.length c :: .int .i64 (es.length : Int) :: .int .i64 (j : Int) :: u14 :: u15 :: u16 :: u17 :: u18 :: u19 :: u20 :: u21 :: u22 :: u23 :: u24 :: u25 :: []) ∧ St w (fun _ => False) w_ ([]) ∧ (j ≤ es.length ∧ es.take j = fs.take j)) (fun i_ => match i_ with | j => es.length - j) 0 ?_ ?_
    · exact ⟨_, _, _, _, _, _, _, _, _, _, _, _, _, _, rfl, HS, ⟨by omega, rfl⟩⟩
    · clear HS
      rintro j a_ w19 ⟨u4, u5, u14, u15, u16, u17, u18, u19, u20, u21, u22, u23, u24, u25, rfl, HS, hI⟩ J17 hJ18
      have hjl := hI.1
      refine wp_seq_k (fun K20 hK21 => ?_)
      refine c_region (fun ops23 hops22 => ?_)
      clear hops22
      refine p_run _ (x_cmp (k := .i64) (m := (j : Int)) (n := (es.length : Int)) .lss (decide ((j : Int) < (es.length : Int))) rfl rfl rfl rfl rfl) rfl ?_
      refine wpList_nil ?_
      refine hK21 _ _ ?_
      refine wp_seq_k (fun K24 hK25 => ?_)
      refine c_cond (t := decide ((j : Int) < (es.length : Int))) rfl (fun hc26 => ?_) (fun hc26 => ?_)
      · have hlt : j < es.length := by have := of_decide_eq_true hc26; omega
        obtain ⟨ad, x, rfl, hx, -⟩ := hv_get (Kd.C_below hr HS.belowOf) j hlt
        obtain ⟨ae, y, rfl, hy, -⟩ := hv_get (Kd.C_below hr2 HS.belowOf) j (by omega)
        refine wp_skip ?_
        refine hK25 _ _ ?_
        refine wp_seq_k (fun K27 hK28 => ?_)
        refine wp_block ?_
        refine wp_seq_k (fun K29 hK30 => ?_)
        refine c_region (fun ops32 hops31 => ?_)
        clear hops31
        refine p_run _ (x_move (.int .i64 (j : Int)) rfl rfl) rfl ?_
        refine p_run _ (x_assign (.int .i64 (j : Int)) rfl rfl) rfl ?_
        refine wpList_nil ?_
        refine hK30 _ _ ?_
        refine wp_seq_k (fun K33 hK34 => ?_)
        by_cases hxy : x = y
        · skip
          refine free_frame (n := 9) (T := _) [0, 0, 3, 7, 0, 0, 48, 112, 255] [(0, 16), (1, 17), (2, 18), (3, 19), (4, 20), (5, 21), (6, 22), (7, 23), (8, 24)] (fun bq_ vq_ w_ => qv ((fun i_ => match i_ with | 0 => some (.slice (some ad) es.length c) | 1 => some (.int .i64 (j : Int)) | 2 => some (.pointer (some ((ad).add (j * 3)))) | 3 => some (.agg ([.int .u32 x.1, .int .u32 x.2.1, .int .u32 x.2.2] : List Value).toArray) | 4 => some (.slice (some ae) fs.length d) | 5 => some (.int .i64 (j : Int)) | 6 => some (.pointer (some ((ae).add (j * 3)))) | 7 => some (.agg ([.int .u32 y.1, .int .u32 y.2.1, .int .u32 y.2.2] : List Value).toArray) | 8 => some (.bool false) | _ => none) : Nat → Option Value) bq_ vq_ ∧ (St w (fun _ => False) w_ ([]))) (by kernel_rfl) rfl rfl (by kernel_rfl) (by kernel_rfl) rfl (by kernel_rfl) (by kernel_rfl) ⟨qv_none, HS.draw⟩ ?_ ?_
          · clear HS
            intro i_ hi_ bq_ vq_ a_ w_ hG hb_ hon hoff hfr hel hval
            obtain ⟨hV, hE⟩ := hG
            have hi_ := List.mem_range.1 hi_
            obtain ⟨l_, rfl⟩ := hfr
            have hv_ := fun (j t : Nat) (v : Value) (h1 : (j, t) ∈ [(0, 16), (1, 17), (2, 18), (3, 19), (4, 20), (5, 21), (6, 22), (7, 23), (8, 24)]) h2 h3 => (hval (j, t) h1 h3).trans (congrArg some (hV j v h2 h3))
            have hcs : i_ = 0 ∨ i_ = 1 ∨ i_ = 2 ∨ i_ = 3 ∨ i_ = 4 ∨ i_ = 5 ∨ i_ = 6 ∨ i_ = 7 ∨ i_ = 8 := by omega
            rcases hcs with rfl | rfl | rfl | rfl | rfl | rfl | rfl | rfl | rfl
            · have e0 : evl l_ (.tmp 0) = .slice (some ad) es.length c := evl_of ((hel 0 (by decide)).trans rfl)
              exact ⟨_, rfl, fun K_ hK_ => q_op _ (x_move (.slice (some ad) es.length c) rfl e0) (hK_ _ _ ⟨qv_up hV (fun _ h => Option.some.inj h), hE⟩)⟩
            · have e5 : evl l_ (.tmp 5) = .int .i64 (j : Int) := evl_of ((hel 5 (by decide)).trans rfl)
              exact ⟨_, rfl, fun K_ hK_ => q_op _ (x_move (.int .i64 (j : Int)) rfl e5) (hK_ _ _ ⟨qv_up hV (fun _ h => Option.some.inj h), hE⟩)⟩
            · have e16 : evl l_ (.tmp 16) = .slice (some ad) es.length c := evl_of (hv_ 0 16 _ (by decide) rfl (hon 0 (by decide)))
              have e17 : evl l_ (.tmp 17) = .int .i64 (j : Int) := evl_of (hv_ 1 17 _ (by decide) rfl (hon 1 (by decide)))
              exact ⟨_, rfl, fun K_ hK_ => q_op _ (x_index (A := ad) (j := j * 3) (sz := 3) rfl e16 e17 Try.underlying31 (by kernel_rfl) (by omega) rfl) (hK_ _ _ ⟨qv_up hV (fun _ h => Option.some.inj h), hE⟩)⟩
            · have hE0 := hE
              have HS := hE0
              have e18 : evl l_ (.tmp 18) = .pointer (some ((ad).add (j * 3))) := evl_of (hv_ 2 18 _ (by decide) rfl (hon 2 (by decide)))
              exact ⟨_, rfl, fun K_ hK_ => q_op _ (x_loads [.int .u32 x.1, .int .u32 x.2.1, .int .u32 x.2.2] 3 rfl e18 (hv_cells (Kd.C_below hr HS.belowOf) hx) (by rfl) (by kernel_rfl) rfl) (hK_ _ _ ⟨qv_up hV (fun _ h => Option.some.inj h), hE⟩)⟩
            · have e1 : evl l_ (.tmp 1) = .slice (some ae) fs.length d := evl_of ((hel 1 (by decide)).trans rfl)
              exact ⟨_, rfl, fun K_ hK_ => q_op _ (x_move (.slice (some ae) fs.length d) rfl e1) (hK_ _ _ ⟨qv_up hV (fun _ h => Option.some.inj h), hE⟩)⟩
            · have e5 : evl l_ (.tmp 5) = .int .i64 (j : Int) := evl_of ((hel 5 (by decide)).trans rfl)
              exact ⟨_, rfl, fun K_ hK_ => q_op _ (x_move (.int .i64 (j : Int)) rfl e5) (hK_ _ _ ⟨qv_up hV (fun _ h => Option.some.inj h), hE⟩)⟩
            · have e20 : evl l_ (.tmp 20) = .slice (some ae) fs.length d := evl_of (hv_ 4 20 _ (by decide) rfl (hon 4 (by decide)))
              have e21 : evl l_ (.tmp 21) = .int .i64 (j : Int) := evl_of (hv_ 5 21 _ (by decide) rfl (hon 5 (by decide)))
              exact ⟨_, rfl, fun K_ hK_ => q_op _ (x_index (A := ae) (j := j * 3) (sz := 3) rfl e20 e21 Try.underlying31 (by kernel_rfl) (by omega) rfl) (hK_ _ _ ⟨qv_up hV (fun _ h => Option.some.inj h), hE⟩)⟩
            · have hE0 := hE
              have HS := hE0
              have e22 : evl l_ (.tmp 22) = .pointer (some ((ae).add (j * 3))) := evl_of (hv_ 6 22 _ (by decide) rfl (hon 6 (by decide)))
              exact ⟨_, rfl, fun K_ hK_ => q_op _ (x_loads [.int .u32 y.1, .int .u32 y.2.1, .int .u32 y.2.2] 3 rfl e22 (hv_cells (Kd.C_below hr2 HS.belowOf) hy) (by rfl) (by kernel_rfl) rfl) (hK_ _ _ ⟨qv_up hV (fun _ h => Option.some.inj h), hE⟩)⟩
            · have hE0 := hE
              have HS := hE0
              have e19 : evl l_ (.tmp 19) = .agg ([.int .u32 x.1, .int .u32 x.2.1, .int .u32 x.2.2] : List Value).toArray := evl_of (hv_ 3 19 _ (by decide) rfl (hon 3 (by decide)))
              have e23 : evl l_ (.tmp 23) = .agg ([.int .u32 y.1, .int .u32 y.2.1, .int .u32 y.2.2] : List Value).toArray := evl_of (hv_ 7 23 _ (by decide) rfl (hon 7 (by decide)))
              exact ⟨_, rfl, fun K_ hK_ => q_op _ (x_eq .neq (.agg ([.int .u32 x.1, .int .u32 x.2.1, .int .u32 x.2.2] : List Value).toArray) (.agg ([.int .u32 y.1, .int .u32 y.2.1, .int .u32 y.2.2] : List Value).toArray) (decide (x = y)) false rfl e19 e23 (equal_hv _ x y) (by rw [decide_eq_true hxy]; rfl) rfl (guard_agg (by kernel_rfl)) (guard_agg (by kernel_rfl))) (hK_ _ _ ⟨qv_up hV (fun _ h => Option.some.inj h), hE⟩)⟩
          intro bq_ vq_ w_ hall hG
          obtain ⟨hV, hE⟩ := hG
          clear HS
          have HS := hE
          have hv0 := hV 0 _ rfl (hall 0 (by decide))
          have hv1 := hV 1 _ rfl (hall 1 (by decide))
          have hv2 := hV 2 _ rfl (hall 2 (by decide))
          have hv3 := hV 3 _ rfl (hall 3 (by decide))
          have hv4 := hV 4 _ rfl (hall 4 (by decide))
          have hv5 := hV 5 _ rfl (hall 5 (by decide))
          have hv6 := hV 6 _ rfl (hall 6 (by decide))
          have hv7 := hV 7 _ rfl (hall 7 (by decide))
          have hv8 := hV 8 _ rfl (hall 8 (by decide))
          clear hV hall
          rw [putSel_fr]
          simp only [tells, List.map_cons, List.map_nil, setAll, List.set_cons_succ, List.set_cons_zero, hv0, hv1, hv2, hv3, hv4, hv5, hv6, hv7, hv8]
          clear hv0 hv1 hv2 hv3 hv4 hv5 hv6 hv7 hv8
          generalize w_ = w900801 at HS ⊢
          refine fr_at (l' := (.slice (some ad) es.length c :: .slice (some ae) fs.length d :: undef :: undef :: u4 :: .int .i64 (j : Int) :: .slice (some ad) es.length c :: .int .i64 (es.length : Int) :: .slice (some ae) fs.length d :: .int .i64 (fs.length : Int) :: .bool false :: .slice (some ad) es.length c :: .int .i64 (es.length : Int) :: .int .i64 (j : Int) :: .bool (decide ((j : Int) < (es.length : Int))) :: .int .i64 (j : Int) :: .slice (some ad) es.length c :: .int .i64 (j : Int) :: .pointer (some ((ad).add (j * 3))) :: .agg ([.int .u32 x.1, .int .u32 x.2.1, .int .u32 x.2.2] : List Value).toArray :: .slice (some ae) fs.length d :: .int .i64 (j : Int) :: .pointer (some ((ae).add (j * 3))) :: .agg ([.int .u32 y.1, .int .u32 y.2.1, .int .u32 y.2.2] : List Value).toArray :: .bool false :: u25 :: [])) rfl ?_
          refine hK34 _ _ ?_
          refine c_false rfl ?_
          refine wp_skip ?_
          refine hK28 _ _ ?_
          refine c_region (fun ops900803 hops900802 => ?_)
          clear hops900802
          refine p_run _ (x_arith (k := .i64) (m := (j : Int)) (n := 1) .add (((j + 1 : Nat) : Int)) rfl rfl rfl (show IntKind.i64.wrap ((j : Int) + 1) = ((j + 1 : Nat) : Int) from ((wr64' (by omega)).trans (by omega))) rfl) rfl ?_
          refine p_run _ (x_move (.int .i64 ((j + 1 : Nat) : Int)) rfl rfl) rfl ?_
          refine wpList_nil ?_
          refine fr_at (l' := (.slice (some ad) es.length c :: .slice (some ae) fs.length d :: undef :: undef :: u4 :: .int .i64 (j : Int) :: .slice (some ad) es.length c :: .int .i64 (es.length : Int) :: .slice (some ae) fs.length d :: .int .i64 (fs.length : Int) :: .bool false :: .slice (some ad) es.length c :: .int .i64 (es.length : Int) :: .int .i64 ((j + 1 : Nat) : Int) :: .bool (decide ((j : Int) < (es.length : Int))) :: .int .i64 (j : Int) :: .slice (some ad) es.length c :: .int .i64 (j : Int) :: .pointer (some ((ad).add (j * 3))) :: .agg ([.int .u32 x.1, .int .u32 x.2.1, .int .u32 x.2.2] : List Value).toArray :: .slice (some ae) fs.length d :: .int .i64 (j : Int) :: .pointer (some ((ae).add (j * 3))) :: .agg ([.int .u32 y.1, .int .u32 y.2.1, .int .u32 y.2.2] : List Value).toArray :: .bool false :: .int .i64 ((j + 1 : Nat) : Int) :: [])) rfl ?_
          refine hJ18 (j + 1) _ _ ?_ ?_
          · show es.length - (j + 1) < es.length - j; omega
          · exact ⟨_, _, _, _, _, _, _, _, _, _, _, _, _, _, rfl, HS, ⟨(by omega), take_eq hI.2 hx hy hxy⟩⟩
        · skip
          refine free_frame (n := 9) (T := _) [0, 0, 3, 7, 0, 0, 48, 112, 255] [(0, 16), (1, 17), (2, 18), (3, 19), (4, 20), (5, 21), (6, 22), (7, 23), (8, 24)] (fun bq_ vq_ w_ => qv ((fun i_ => match i_ with | 0 => some (.slice (some ad) es.length c) | 1 => some (.int .i64 (j : Int)) | 2 => some (.pointer (some ((ad).add (j * 3)))) | 3 => some (.agg ([.int .u32 x.1, .int .u32 x.2.1, .int .u32 x.2.2] : List Value).toArray) | 4 => some (.slice (some ae) fs.length d) | 5 => some (.int .i64 (j : Int)) | 6 => some (.pointer (some ((ae).add (j * 3)))) | 7 => some (.agg ([.int .u32 y.1, .int .u32 y.2.1, .int .u32 y.2.2] : List Value).toArray) | 8 => some (.bool true) | _ => none) : Nat → Option Value) bq_ vq_ ∧ (St w (fun _ => False) w_ ([]))) (by kernel_rfl) rfl rfl (by kernel_rfl) (by kernel_rfl) rfl (by kernel_rfl) (by kernel_rfl) ⟨qv_none, HS.draw⟩ ?_ ?_
          · clear HS
            intro i_ hi_ bq_ vq_ a_ w_ hG hb_ hon hoff hfr hel hval
            obtain ⟨hV, hE⟩ := hG
            have hi_ := List.mem_range.1 hi_
            obtain ⟨l_, rfl⟩ := hfr
            have hv_ := fun (j t : Nat) (v : Value) (h1 : (j, t) ∈ [(0, 16), (1, 17), (2, 18), (3, 19), (4, 20), (5, 21), (6, 22), (7, 23), (8, 24)]) h2 h3 => (hval (j, t) h1 h3).trans (congrArg some (hV j v h2 h3))
            have hcs : i_ = 0 ∨ i_ = 1 ∨ i_ = 2 ∨ i_ = 3 ∨ i_ = 4 ∨ i_ = 5 ∨ i_ = 6 ∨ i_ = 7 ∨ i_ = 8 := by omega
            rcases hcs with rfl | rfl | rfl | rfl | rfl | rfl | rfl | rfl | rfl
            · have e0 : evl l_ (.tmp 0) = .slice (some ad) es.length c := evl_of ((hel 0 (by decide)).trans rfl)
              exact ⟨_, rfl, fun K_ hK_ => q_op _ (x_move (.slice (some ad) es.length c) rfl e0) (hK_ _ _ ⟨qv_up hV (fun _ h => Option.some.inj h), hE⟩)⟩
            · have e5 : evl l_ (.tmp 5) = .int .i64 (j : Int) := evl_of ((hel 5 (by decide)).trans rfl)
              exact ⟨_, rfl, fun K_ hK_ => q_op _ (x_move (.int .i64 (j : Int)) rfl e5) (hK_ _ _ ⟨qv_up hV (fun _ h => Option.some.inj h), hE⟩)⟩
            · have e16 : evl l_ (.tmp 16) = .slice (some ad) es.length c := evl_of (hv_ 0 16 _ (by decide) rfl (hon 0 (by decide)))
              have e17 : evl l_ (.tmp 17) = .int .i64 (j : Int) := evl_of (hv_ 1 17 _ (by decide) rfl (hon 1 (by decide)))
              exact ⟨_, rfl, fun K_ hK_ => q_op _ (x_index (A := ad) (j := j * 3) (sz := 3) rfl e16 e17 Try.underlying31 (by kernel_rfl) (by omega) rfl) (hK_ _ _ ⟨qv_up hV (fun _ h => Option.some.inj h), hE⟩)⟩
            · have hE0 := hE
              have HS := hE0
              have e18 : evl l_ (.tmp 18) = .pointer (some ((ad).add (j * 3))) := evl_of (hv_ 2 18 _ (by decide) rfl (hon 2 (by decide)))
              exact ⟨_, rfl, fun K_ hK_ => q_op _ (x_loads [.int .u32 x.1, .int .u32 x.2.1, .int .u32 x.2.2] 3 rfl e18 (hv_cells (Kd.C_below hr HS.belowOf) hx) (by rfl) (by kernel_rfl) rfl) (hK_ _ _ ⟨qv_up hV (fun _ h => Option.some.inj h), hE⟩)⟩
            · have e1 : evl l_ (.tmp 1) = .slice (some ae) fs.length d := evl_of ((hel 1 (by decide)).trans rfl)
              exact ⟨_, rfl, fun K_ hK_ => q_op _ (x_move (.slice (some ae) fs.length d) rfl e1) (hK_ _ _ ⟨qv_up hV (fun _ h => Option.some.inj h), hE⟩)⟩
            · have e5 : evl l_ (.tmp 5) = .int .i64 (j : Int) := evl_of ((hel 5 (by decide)).trans rfl)
              exact ⟨_, rfl, fun K_ hK_ => q_op _ (x_move (.int .i64 (j : Int)) rfl e5) (hK_ _ _ ⟨qv_up hV (fun _ h => Option.some.inj h), hE⟩)⟩
            · have e20 : evl l_ (.tmp 20) = .slice (some ae) fs.length d := evl_of (hv_ 4 20 _ (by decide) rfl (hon 4 (by decide)))
              have e21 : evl l_ (.tmp 21) = .int .i64 (j : Int) := evl_of (hv_ 5 21 _ (by decide) rfl (hon 5 (by decide)))
              exact ⟨_, rfl, fun K_ hK_ => q_op _ (x_index (A := ae) (j := j * 3) (sz := 3) rfl e20 e21 Try.underlying31 (by kernel_rfl) (by omega) rfl) (hK_ _ _ ⟨qv_up hV (fun _ h => Option.some.inj h), hE⟩)⟩
            · have hE0 := hE
              have HS := hE0
              have e22 : evl l_ (.tmp 22) = .pointer (some ((ae).add (j * 3))) := evl_of (hv_ 6 22 _ (by decide) rfl (hon 6 (by decide)))
              exact ⟨_, rfl, fun K_ hK_ => q_op _ (x_loads [.int .u32 y.1, .int .u32 y.2.1, .int .u32 y.2.2] 3 rfl e22 (hv_cells (Kd.C_below hr2 HS.belowOf) hy) (by rfl) (by kernel_rfl) rfl) (hK_ _ _ ⟨qv_up hV (fun _ h => Option.some.inj h), hE⟩)⟩
            · have hE0 := hE
              have HS := hE0
              have e19 : evl l_ (.tmp 19) = .agg ([.int .u32 x.1, .int .u32 x.2.1, .int .u32 x.2.2] : List Value).toArray := evl_of (hv_ 3 19 _ (by decide) rfl (hon 3 (by decide)))
              have e23 : evl l_ (.tmp 23) = .agg ([.int .u32 y.1, .int .u32 y.2.1, .int .u32 y.2.2] : List Value).toArray := evl_of (hv_ 7 23 _ (by decide) rfl (hon 7 (by decide)))
              exact ⟨_, rfl, fun K_ hK_ => q_op _ (x_eq .neq (.agg ([.int .u32 x.1, .int .u32 x.2.1, .int .u32 x.2.2] : List Value).toArray) (.agg ([.int .u32 y.1, .int .u32 y.2.1, .int .u32 y.2.2] : List Value).toArray) (decide (x = y)) true rfl e19 e23 (equal_hv _ x y) (by rw [decide_eq_false hxy]; rfl) rfl (guard_agg (by kernel_rfl)) (guard_agg (by kernel_rfl))) (hK_ _ _ ⟨qv_up hV (fun _ h => Option.some.inj h), hE⟩)⟩
          intro bq_ vq_ w_ hall hG
          obtain ⟨hV, hE⟩ := hG
          clear HS
          have HS := hE
          have hv0 := hV 0 _ rfl (hall 0 (by decide))
          have hv1 := hV 1 _ rfl (hall 1 (by decide))
          have hv2 := hV 2 _ rfl (hall 2 (by decide))
          have hv3 := hV 3 _ rfl (hall 3 (by decide))
          have hv4 := hV 4 _ rfl (hall 4 (by decide))
          have hv5 := hV 5 _ rfl (hall 5 (by decide))
          have hv6 := hV 6 _ rfl (hall 6 (by decide))
          have hv7 := hV 7 _ rfl (hall 7 (by decide))
          have hv8 := hV 8 _ rfl (hall 8 (by decide))
          clear hV hall
          rw [putSel_fr]
          simp only [tells, List.map_cons, List.map_nil, setAll, List.set_cons_succ, List.set_cons_zero, hv0, hv1, hv2, hv3, hv4, hv5, hv6, hv7, hv8]
          clear hv0 hv1 hv2 hv3 hv4 hv5 hv6 hv7 hv8
          generalize w_ = w900801 at HS ⊢
          refine fr_at (l' := (.slice (some ad) es.length c :: .slice (some ae) fs.length d :: undef :: undef :: u4 :: .int .i64 (j : Int) :: .slice (some ad) es.length c :: .int .i64 (es.length : Int) :: .slice (some ae) fs.length d :: .int .i64 (fs.length : Int) :: .bool false :: .slice (some ad) es.length c :: .int .i64 (es.length : Int) :: .int .i64 (j : Int) :: .bool (decide ((j : Int) < (es.length : Int))) :: .int .i64 (j : Int) :: .slice (some ad) es.length c :: .int .i64 (j : Int) :: .pointer (some ((ad).add (j * 3))) :: .agg ([.int .u32 x.1, .int .u32 x.2.1, .int .u32 x.2.2] : List Value).toArray :: .slice (some ae) fs.length d :: .int .i64 (j : Int) :: .pointer (some ((ae).add (j * 3))) :: .agg ([.int .u32 y.1, .int .u32 y.2.1, .int .u32 y.2.2] : List Value).toArray :: .bool true :: u25 :: [])) rfl ?_
          refine hK34 _ _ ?_
          refine c_true rfl ?_
          refine wp_seq_k (fun K900802 hK900803 => ?_)
          refine c_region (fun ops900805 hops900804 => ?_)
          clear hops900804
          refine p_run _ (x_assign (.bool false) rfl rfl) rfl ?_
          refine wpList_nil ?_
          refine hK900803 _ _ ?_
          refine wp_ret ?_
          try simp only [Exit.inBlock, Exit.then]
          refine c_ret (.bool false) (r_tmp rfl rfl) ?_
          have hne : decide (es = fs) = false := decide_eq_false (fun h => hxy (by rw [h, hy] at hx; injection hx with hx; exact hx.symm))
          rw [hne]
          exact ⟨rfl, HS.belowOf⟩
      · have hlt : j = es.length := by have := of_decide_eq_false hc26; omega
        subst hlt
        refine wp_exit ?_
        refine hK12 _ _ ?_
        refine wp_seq_k (fun K900806 hK900807 => ?_)
        refine c_region (fun ops900809 hops900808 => ?_)
        clear hops900808
        refine p_run _ (x_assign (.bool true) rfl rfl) rfl ?_
        refine wpList_nil ?_
        refine hK900807 _ _ ?_
        refine wp_ret ?_
        try simp only [Exit.inBlock, Exit.then]
        refine c_ret (.bool true) (r_tmp rfl rfl) ?_
        have hne : decide (es = fs) = true := decide_eq_true (by have h := hI.2; rw [List.take_length, hln, List.take_length] at h; exact h)
        rw [hne]
        exact ⟨rfl, HS.belowOf⟩
  · skip
    refine c_enter Try.func39 rfl 26 rfl (.slice A es.length c :: .slice B fs.length d :: U16f7 (U8f7 ([]))) rfl ?_
    refine wp_seq_k (fun K1 hK2 => ?_)
    refine c_region (fun ops4 hops3 => ?_)
    clear hops3
    refine p_run _ (x_assign (.bool false) rfl rfl) rfl ?_
    refine wpList_nil ?_
    refine hK2 _ _ ?_
    refine wp_seq_k (fun K5 hK6 => ?_)
    refine wp_seq_k (fun K7 hK8 => ?_)
    refine c_region (fun ops10 hops9 => ?_)
    clear hops9
    refine p_run _ (x_move (.slice A es.length c) rfl rfl) rfl ?_
    refine p_run _ (x_len rfl rfl Try.underlying31) rfl ?_
    refine p_run _ (x_move (.slice B fs.length d) rfl rfl) rfl ?_
    refine p_run _ (x_len rfl rfl Try.underlying31) rfl ?_
    refine p_run _ (x_cmp (k := .i64) (m := (es.length : Int)) (n := (fs.length : Int)) .neq true rfl rfl rfl (neqI (by omega)) rfl) rfl ?_
    refine wpList_nil ?_
    refine fr_at (l' := (.slice A es.length c :: .slice B fs.length d :: undef :: undef :: .bool false :: undef :: .slice A es.length c :: .int .i64 (es.length : Int) :: .slice B fs.length d :: .int .i64 (fs.length : Int) :: .bool true :: U8f7 (U4f7 (undef :: undef :: undef :: [])))) rfl ?_
    refine hK8 _ _ ?_
    refine c_true rfl ?_
    refine wp_seq_k (fun K11 hK12 => ?_)
    refine c_region (fun ops14 hops13 => ?_)
    clear hops13
    refine p_run _ (x_assign (.bool false) rfl rfl) rfl ?_
    refine wpList_nil ?_
    refine hK12 _ _ ?_
    refine wp_ret ?_
    try simp only [Exit.inBlock, Exit.then]
    refine c_ret (.bool false) (r_tmp rfl rfl) ?_
    have hne : decide (es = fs) = false := decide_eq_false (fun h => hln (by rw [h]))
    rw [hne]
    exact ⟨rfl, HS.belowOf⟩
set_option maxRecDepth 10000 in
set_option maxHeartbeats 2000000 in
theorem fsame_any (w : World) (m : Mg) (A : Option Addr) (c : Nat) (hA : kIt.C w A m.its.length m.its) (B : Option Addr) (d : Nat) (hB : kHv.C w B m.hvs.length m.hvs) (hl : m.its.length ≤ 1000) (hl2 : m.hvs.length ≤ 1000) (n : Mg) (A2 : Option Addr) (c2 : Nat) (hA2 : kIt.C w A2 n.its.length n.its) (B2 : Option Addr) (d2 : Nat) (hB2 : kHv.C w B2 n.hvs.length n.hvs) (hn : n.its.length ≤ 1000) (hn2 : n.hvs.length ≤ 1000) : Calls Try.prog 16 #[mgV m A c B d, mgV n A2 c2 B2 d2] w fun e w' => e = .returned (.bool (smB m n)) ∧ Below w.heap.size w w' := by
  have HS := St.empty w
  · skip
    refine c_enter Try.func16 rfl 77 rfl (mgV m A c B d :: mgV n A2 c2 B2 d2 :: U64f7 (U8f7 (undef :: undef :: undef :: []))) rfl ?_
    refine wp_seq_k (fun K1 hK2 => ?_)
    refine c_region (fun ops4 hops3 => ?_)
    clear hops3
    refine St.wBox HS (cs := [.int .i64 m.k, .int .u32 m.e, .int .u64 m.s, .int .u32 m.te, .int .u32 m.ts, .int .u32 m.be, .int .u32 m.bs, .int .i64 m.ix, .int .i64 m.tt, .int .u32 m.tk, .slice A m.its.length c, .slice B m.hvs.length d]) (mgV m A c B d) rfl rfl ?_
    clear HS
    intro g5 w6 hg7 HS
    refine St.wBox HS (cs := [.int .i64 n.k, .int .u32 n.e, .int .u64 n.s, .int .u32 n.te, .int .u32 n.ts, .int .u32 n.be, .int .u32 n.bs, .int .i64 n.ix, .int .i64 n.tt, .int .u32 n.tk, .slice A2 n.its.length c2, .slice B2 n.hvs.length d2]) (mgV n A2 c2 B2 d2) rfl rfl ?_
    clear HS
    intro g8 w9 hg10 HS
    refine p_run _ (x_assign (.bool false) rfl rfl) rfl ?_
    refine wpList_nil ?_
    refine hK2 _ _ ?_
    refine wp_seq_k (fun K11 hK12 => ?_)
    have hT13 : ∀ (b5 : Bool) (q14 : V8) (q15 : V8) (q16 : V8) (q17 : V8) (q18 : V8) (w19 : World), St w (fun _ => False) w19 ([blk g8 [.int .i64 n.k, .int .u32 n.e, .int .u64 n.s, .int .u32 n.te, .int .u32 n.ts, .int .u32 n.be, .int .u32 n.bs, .int .i64 n.ix, .int .i64 n.tt, .int .u32 n.tk, .slice A2 n.its.length c2, .slice B2 n.hvs.length d2] 33, blk g5 [.int .i64 m.k, .int .u32 m.e, .int .u64 m.s, .int .u32 m.te, .int .u32 m.ts, .int .u32 m.be, .int .u32 m.bs, .int .i64 m.ix, .int .i64 m.tt, .int .u32 m.tk, .slice A m.its.length c, .slice B m.hvs.length d] 33]) → (b5 = hdB m n) → K11 (fr (mgV m A c B d :: mgV n A2 c2 B2 d2 :: .pointer (some ⟨g5, 0, none⟩) :: .pointer (some ⟨g8, 0, none⟩) :: .bool false :: .bool b5 :: undef :: V8.l q14 (V8.l q15 (V8.l q16 (V8.l q17 (q18.a :: U32f7 (U4f7 (undef :: [])))))))) w19 := by
      clear HS
      intro b5 q14 q15 q16 q17 q18 w19 HS hJ
      refine hK12 _ _ ?_
      have hb5 := hJ
      refine wp_seq_k (fun K20 hK21 => ?_)
      have hT22 : ∀ (b6 : Bool) (q23 : V8) (q24 : V8) (q25 : V8) (w26 : World), St w (fun _ => False) w26 ([blk g8 [.int .i64 n.k, .int .u32 n.e, .int .u64 n.s, .int .u32 n.te, .int .u32 n.ts, .int .u32 n.be, .int .u32 n.bs, .int .i64 n.ix, .int .i64 n.tt, .int .u32 n.tk, .slice A2 n.its.length c2, .slice B2 n.hvs.length d2] 33, blk g5 [.int .i64 m.k, .int .u32 m.e, .int .u64 m.s, .int .u32 m.te, .int .u32 m.ts, .int .u32 m.be, .int .u32 m.bs, .int .i64 m.ix, .int .i64 m.tt, .int .u32 m.tk, .slice A m.its.length c, .slice B m.hvs.length d] 33]) → (b6 = rtB m n) → K20 (fr (mgV m A c B d :: mgV n A2 c2 B2 d2 :: .pointer (some ⟨g5, 0, none⟩) :: .pointer (some ⟨g8, 0, none⟩) :: .bool false :: .bool b5 :: .bool b6 :: V8.l q14 (V8.l q15 (V8.l q16 (V8.l q17 (q18.a :: V8.l q23 (V8.l q24 (q25.a :: q25.b :: q25.c :: U16f7 (undef :: undef :: []))))))))) w26 := by
        clear HS
        intro b6 q23 q24 q25 w26 HS hJ
        refine hK21 _ _ ?_
        have hb6 := hJ
        refine wp_seq_k (fun K27 hK28 => ?_)
        rcases fstB b5 b6 (m.its = n.its) with h5 | ⟨h5, h6⟩ | ⟨h5, h6, h7⟩ | ⟨h5, h6, h7⟩
        · skip
          subst h5
          refine c_region (fun ops30 hops29 => ?_)
          refine p_run _ (x_move (.bool false) rfl rfl) rfl ?_
          refine p_run _ (x_move (.bool false) rfl rfl) rfl ?_
          refine p_off (by rw [hops29]; rfl) rfl ?_
          refine p_run (l' := (mgV m A c B d :: mgV n A2 c2 B2 d2 :: .pointer (some ⟨g5, 0, none⟩) :: .pointer (some ⟨g8, 0, none⟩) :: .bool false :: .bool false :: .bool b6 :: V8.l q14 (V8.l q15 (V8.l q16 (V8.l q17 (q18.a :: V8.l q23 (V8.l q24 (q25.a :: q25.b :: q25.c :: .bool false :: .bool false :: undef :: .bool false :: U8f7 (U4f7 (undef :: undef :: [])))))))))) _ (x_pick false (undef) (.bool false) (.bool false) rfl rfl rfl rfl rfl) rfl ?_
          refine p_run _ (x_move (.bool false) rfl rfl) rfl ?_
          refine p_off (by rw [hops29]; rfl) rfl ?_
          refine p_off (by rw [hops29]; rfl) rfl ?_
          refine p_off (by rw [hops29]; rfl) rfl ?_
          refine p_off (by rw [hops29]; rfl) rfl ?_
          refine p_off (by rw [hops29]; rfl) rfl ?_
          refine p_run (l' := (mgV m A c B d :: mgV n A2 c2 B2 d2 :: .pointer (some ⟨g5, 0, none⟩) :: .pointer (some ⟨g8, 0, none⟩) :: .bool false :: .bool false :: .bool b6 :: V8.l q14 (V8.l q15 (V8.l q16 (V8.l q17 (q18.a :: V8.l q23 (V8.l q24 (q25.a :: q25.b :: q25.c :: .bool false :: .bool false :: undef :: .bool false :: .bool false :: U4f7 (undef :: .bool false :: U4f7 (undef :: undef :: undef :: [])))))))))) _ (x_pick false (undef) (.bool false) (.bool false) rfl rfl rfl rfl rfl) rfl ?_
          refine p_run _ (x_move (.bool false) rfl rfl) rfl ?_
          refine p_off (by rw [hops29]; rfl) rfl ?_
          refine p_off (by rw [hops29]; rfl) rfl ?_
          refine p_off (by rw [hops29]; rfl) rfl ?_
          refine p_off (by rw [hops29]; rfl) rfl ?_
          refine p_off (by rw [hops29]; rfl) rfl ?_
          refine p_run (l' := (mgV m A c B d :: mgV n A2 c2 B2 d2 :: .pointer (some ⟨g5, 0, none⟩) :: .pointer (some ⟨g8, 0, none⟩) :: .bool false :: .bool false :: .bool b6 :: V8.l q14 (V8.l q15 (V8.l q16 (V8.l q17 (q18.a :: V8.l q23 (V8.l q24 (q25.a :: q25.b :: q25.c :: .bool false :: .bool false :: undef :: .bool false :: .bool false :: U4f7 (undef :: .bool false :: .bool false :: U4f7 (undef :: .bool false :: [])))))))))) _ (x_pick false (undef) (.bool false) (.bool false) rfl rfl rfl rfl rfl) rfl ?_
          refine p_run _ (x_assign (.bool false) rfl rfl) rfl ?_
          clear hops29
          refine wpList_nil ?_
          refine hK28 _ _ ?_
          refine wp_ret ?_
          try simp only [Exit.inBlock, Exit.then]
          refine c_ret (.bool false) (r_tmp rfl rfl) ?_
          have e1 : smB m n = false := by unfold smB; rw [← hb5]; simp
          rw [e1]
          exact ⟨rfl, HS.belowOf⟩
        · skip
          subst h5
          subst h6
          refine c_region (fun ops32 hops31 => ?_)
          refine p_run _ (x_move (.bool true) rfl rfl) rfl ?_
          refine p_run _ (x_move (.bool true) rfl rfl) rfl ?_
          refine p_on rfl (by rw [hops31]; rfl) ?_
          refine p_run _ (x_move (.bool false) rfl rfl) rfl ?_
          refine p_run _ (x_pick true (.bool false) (.bool false) (.bool false) rfl rfl rfl rfl rfl) rfl ?_
          refine p_run _ (x_move (.bool false) rfl rfl) rfl ?_
          refine p_off (l' := (mgV m A c B d :: mgV n A2 c2 B2 d2 :: .pointer (some ⟨g5, 0, none⟩) :: .pointer (some ⟨g8, 0, none⟩) :: .bool false :: .bool true :: .bool false :: V8.l q14 (V8.l q15 (V8.l q16 (V8.l q17 (q18.a :: V8.l q23 (V8.l q24 (q25.a :: q25.b :: q25.c :: .bool true :: .bool true :: .bool false :: .bool false :: .bool false :: U8f7 (U4f7 (undef :: [])))))))))) (by rw [hops31]; rfl) rfl ?_
          refine p_off (by rw [hops31]; rfl) rfl ?_
          refine p_off (by rw [hops31]; rfl) rfl ?_
          refine p_off (by rw [hops31]; rfl) rfl ?_
          refine p_off (by rw [hops31]; rfl) rfl ?_
          refine p_run _ (x_pick false (undef) (.bool false) (.bool false) rfl rfl rfl rfl rfl) rfl ?_
          refine p_run _ (x_move (.bool false) rfl rfl) rfl ?_
          refine p_off (l' := (mgV m A c B d :: mgV n A2 c2 B2 d2 :: .pointer (some ⟨g5, 0, none⟩) :: .pointer (some ⟨g8, 0, none⟩) :: .bool false :: .bool true :: .bool false :: V8.l q14 (V8.l q15 (V8.l q16 (V8.l q17 (q18.a :: V8.l q23 (V8.l q24 (q25.a :: q25.b :: q25.c :: .bool true :: .bool true :: .bool false :: .bool false :: .bool false :: U4f7 (undef :: .bool false :: .bool false :: U4f7 (undef :: undef :: [])))))))))) (by rw [hops31]; rfl) rfl ?_
          refine p_off (by rw [hops31]; rfl) rfl ?_
          refine p_off (by rw [hops31]; rfl) rfl ?_
          refine p_off (by rw [hops31]; rfl) rfl ?_
          refine p_off (by rw [hops31]; rfl) rfl ?_
          refine p_run _ (x_pick false (undef) (.bool false) (.bool false) rfl rfl rfl rfl rfl) rfl ?_
          refine p_run _ (x_assign (.bool false) rfl rfl) rfl ?_
          clear hops31
          refine wpList_nil ?_
          obtain ⟨qz33, hqz33⟩ : ∃ q_ : V8, q_ = ⟨q14.b, q14.c, q14.d, q14.e, q14.f, q14.g, q14.h, q15.a⟩ := ⟨_, rfl⟩
          obtain ⟨qz34, hqz34⟩ : ∃ q_ : V8, q_ = ⟨q15.b, q15.c, q15.d, q15.e, q15.f, q15.g, q15.h, q16.a⟩ := ⟨_, rfl⟩
          obtain ⟨qz35, hqz35⟩ : ∃ q_ : V8, q_ = ⟨q16.b, q16.c, q16.d, q16.e, q16.f, q16.g, q16.h, q17.a⟩ := ⟨_, rfl⟩
          obtain ⟨qz36, hqz36⟩ : ∃ q_ : V8, q_ = ⟨q17.b, q17.c, q17.d, q17.e, q17.f, q17.g, q17.h, q18.a⟩ := ⟨_, rfl⟩
          obtain ⟨qz37, hqz37⟩ : ∃ q_ : V8, q_ = ⟨q25.a, q25.b, q25.c, .bool true, .bool true, .bool false, .bool false, .bool false⟩ := ⟨_, rfl⟩
          obtain ⟨qz38, hqz38⟩ : ∃ q_ : V8, q_ = ⟨undef, undef, undef, undef, undef, .bool false, .bool false, undef⟩ := ⟨_, rfl⟩
          refine fr_at (l' := (mgV m A c B d :: mgV n A2 c2 B2 d2 :: .pointer (some ⟨g5, 0, none⟩) :: .pointer (some ⟨g8, 0, none⟩) :: .bool false :: .bool true :: .bool false :: q14.a :: V8.l qz33 (V8.l qz34 (V8.l qz35 (V8.l qz36 (V8.l q23 (V8.l q24 (V8.l qz37 (V8.l qz38 (U4f7 (.bool false :: []))))))))))) (by subst hqz33 hqz34 hqz35 hqz36 hqz37 hqz38; rfl) ?_
          refine hK28 _ _ ?_
          refine wp_ret ?_
          try simp only [Exit.inBlock, Exit.then]
          refine c_ret (.bool false) (r_tmp rfl rfl) ?_
          have e1 : smB m n = false := by unfold smB; rw [← hb5, ← hb6]; simp
          rw [e1]
          exact ⟨rfl, HS.belowOf⟩
        · skip
          subst h5
          subst h6
          refine c_region (fun ops40 hops39 => ?_)
          refine p_run _ (x_move (.bool true) rfl rfl) rfl ?_
          refine p_run _ (x_move (.bool true) rfl rfl) rfl ?_
          refine p_on rfl (by rw [hops39]; rfl) ?_
          refine p_run _ (x_move (.bool true) rfl rfl) rfl ?_
          refine p_run _ (x_pick true (.bool true) (.bool false) (.bool true) rfl rfl rfl rfl rfl) rfl ?_
          refine p_run _ (x_move (.bool true) rfl rfl) rfl ?_
          refine p_on rfl (by rw [hops39]; rfl) ?_
          refine p_run _ (x_field (j := 10) _ _ rfl rfl Try.underlying33 rfl (by rfl) rfl) rfl ?_
          refine p_on rfl (by rw [hops39]; rfl) ?_
          refine p_run (l' := (mgV m A c B d :: mgV n A2 c2 B2 d2 :: .pointer (some ⟨g5, 0, none⟩) :: .pointer (some ⟨g8, 0, none⟩) :: .bool false :: .bool true :: .bool true :: V8.l q14 (V8.l q15 (V8.l q16 (V8.l q17 (q18.a :: V8.l q23 (V8.l q24 (q25.a :: q25.b :: q25.c :: .bool true :: .bool true :: .bool true :: .bool true :: .bool true :: .pointer (some ⟨g5, 10, none⟩) :: .slice A m.its.length c :: U8f7 (undef :: undef :: undef :: []))))))))) _ (x_load (.slice A m.its.length c) rfl rfl (bkCell (HS.get (.tail _ (.head _))) 10 _ rfl) (by rfl)) rfl ?_
          refine p_on rfl (by rw [hops39]; rfl) ?_
          refine p_run _ (x_field (j := 10) _ _ rfl rfl Try.underlying33 rfl (by rfl) rfl) rfl ?_
          refine p_on rfl (by rw [hops39]; rfl) ?_
          refine p_run _ (x_load (.slice A2 n.its.length c2) rfl rfl (bkCell (HS.get (.head _)) 10 _ rfl) (by rfl)) rfl ?_
          refine p_on rfl (by rw [hops39]; rfl) ?_
          refine w_call [.slice A m.its.length c, .slice A2 n.its.length c2] Try.func38 (by kernel_rfl) (by rfl) rfl ?_
          refine (its_equal _ A c m.its (Kd.C_below hA HS.belowOf) A2 c2 n.its (Kd.C_below hA2 HS.belowOf) hl hn).mono ?_
          rintro e w41 ⟨he_, hb_⟩
          rw [decide_eq_false h7] at he_
          subst he_
          replace HS := HS.here hb_
          clear hb_
          refine ⟨_, rfl, ?_⟩
          refine p_run _ (x_pick true (.bool false) (.bool false) (.bool false) rfl rfl rfl rfl rfl) rfl ?_
          refine p_run _ (x_move (.bool false) rfl rfl) rfl ?_
          refine p_off (by rw [hops39]; rfl) rfl ?_
          refine p_off (l' := (mgV m A c B d :: mgV n A2 c2 B2 d2 :: .pointer (some ⟨g5, 0, none⟩) :: .pointer (some ⟨g8, 0, none⟩) :: .bool false :: .bool true :: .bool true :: V8.l q14 (V8.l q15 (V8.l q16 (V8.l q17 (q18.a :: V8.l q23 (V8.l q24 (q25.a :: q25.b :: q25.c :: .bool true :: .bool true :: .bool true :: .bool true :: .bool true :: .pointer (some ⟨g5, 10, none⟩) :: .slice A m.its.length c :: .pointer (some ⟨g8, 10, none⟩) :: .slice A2 n.its.length c2 :: .bool false :: .bool false :: .bool false :: U4f7 (undef :: undef :: []))))))))) (by rw [hops39]; rfl) rfl ?_
          refine p_off (by rw [hops39]; rfl) rfl ?_
          refine p_off (by rw [hops39]; rfl) rfl ?_
          refine p_off (by rw [hops39]; rfl) rfl ?_
          refine p_run _ (x_pick false (undef) (.bool false) (.bool false) rfl rfl rfl rfl rfl) rfl ?_
          refine p_run _ (x_assign (.bool false) rfl rfl) rfl ?_
          clear hops39
          refine wpList_nil ?_
          obtain ⟨qz42, hqz42⟩ : ∃ q_ : V8, q_ = ⟨q14.b, q14.c, q14.d, q14.e, q14.f, q14.g, q14.h, q15.a⟩ := ⟨_, rfl⟩
          obtain ⟨qz43, hqz43⟩ : ∃ q_ : V8, q_ = ⟨q15.b, q15.c, q15.d, q15.e, q15.f, q15.g, q15.h, q16.a⟩ := ⟨_, rfl⟩
          obtain ⟨qz44, hqz44⟩ : ∃ q_ : V8, q_ = ⟨q16.b, q16.c, q16.d, q16.e, q16.f, q16.g, q16.h, q17.a⟩ := ⟨_, rfl⟩
          obtain ⟨qz45, hqz45⟩ : ∃ q_ : V8, q_ = ⟨q17.b, q17.c, q17.d, q17.e, q17.f, q17.g, q17.h, q18.a⟩ := ⟨_, rfl⟩
          obtain ⟨qz46, hqz46⟩ : ∃ q_ : V8, q_ = ⟨q25.a, q25.b, q25.c, .bool true, .bool true, .bool true, .bool true, .bool true⟩ := ⟨_, rfl⟩
          obtain ⟨qz47, hqz47⟩ : ∃ q_ : V8, q_ = ⟨.pointer (some ⟨g5, 10, none⟩), .slice A m.its.length c, .pointer (some ⟨g8, 10, none⟩), .slice A2 n.its.length c2, .bool false, .bool false, .bool false, undef⟩ := ⟨_, rfl⟩
          refine fr_at (l' := (mgV m A c B d :: mgV n A2 c2 B2 d2 :: .pointer (some ⟨g5, 0, none⟩) :: .pointer (some ⟨g8, 0, none⟩) :: .bool false :: .bool true :: .bool true :: q14.a :: V8.l qz42 (V8.l qz43 (V8.l qz44 (V8.l qz45 (V8.l q23 (V8.l q24 (V8.l qz46 (V8.l qz47 (U4f7 (.bool false :: []))))))))))) (by subst hqz42 hqz43 hqz44 hqz45 hqz46 hqz47; rfl) ?_
          refine hK28 _ _ ?_
          refine wp_ret ?_
          try simp only [Exit.inBlock, Exit.then]
          refine c_ret (.bool false) (r_tmp rfl rfl) ?_
          have e1 : smB m n = false := by unfold smB; rw [← hb5, ← hb6, decide_eq_false h7]; simp
          rw [e1]
          exact ⟨rfl, HS.belowOf⟩
        · skip
          subst h5
          subst h6
          refine c_region (fun ops49 hops48 => ?_)
          refine p_run _ (x_move (.bool true) rfl rfl) rfl ?_
          refine p_run _ (x_move (.bool true) rfl rfl) rfl ?_
          refine p_on rfl (by rw [hops48]; rfl) ?_
          refine p_run _ (x_move (.bool true) rfl rfl) rfl ?_
          refine p_run _ (x_pick true (.bool true) (.bool false) (.bool true) rfl rfl rfl rfl rfl) rfl ?_
          refine p_run _ (x_move (.bool true) rfl rfl) rfl ?_
          refine p_on rfl (by rw [hops48]; rfl) ?_
          refine p_run _ (x_field (j := 10) _ _ rfl rfl Try.underlying33 rfl (by rfl) rfl) rfl ?_
          refine p_on rfl (by rw [hops48]; rfl) ?_
          refine p_run (l' := (mgV m A c B d :: mgV n A2 c2 B2 d2 :: .pointer (some ⟨g5, 0, none⟩) :: .pointer (some ⟨g8, 0, none⟩) :: .bool false :: .bool true :: .bool true :: V8.l q14 (V8.l q15 (V8.l q16 (V8.l q17 (q18.a :: V8.l q23 (V8.l q24 (q25.a :: q25.b :: q25.c :: .bool true :: .bool true :: .bool true :: .bool true :: .bool true :: .pointer (some ⟨g5, 10, none⟩) :: .slice A m.its.length c :: U8f7 (undef :: undef :: undef :: []))))))))) _ (x_load (.slice A m.its.length c) rfl rfl (bkCell (HS.get (.tail _ (.head _))) 10 _ rfl) (by rfl)) rfl ?_
          refine p_on rfl (by rw [hops48]; rfl) ?_
          refine p_run _ (x_field (j := 10) _ _ rfl rfl Try.underlying33 rfl (by rfl) rfl) rfl ?_
          refine p_on rfl (by rw [hops48]; rfl) ?_
          refine p_run _ (x_load (.slice A2 n.its.length c2) rfl rfl (bkCell (HS.get (.head _)) 10 _ rfl) (by rfl)) rfl ?_
          refine p_on rfl (by rw [hops48]; rfl) ?_
          refine w_call [.slice A m.its.length c, .slice A2 n.its.length c2] Try.func38 (by kernel_rfl) (by rfl) rfl ?_
          refine (its_equal _ A c m.its (Kd.C_below hA HS.belowOf) A2 c2 n.its (Kd.C_below hA2 HS.belowOf) hl hn).mono ?_
          rintro e w50 ⟨he_, hb_⟩
          rw [decide_eq_true h7] at he_
          subst he_
          replace HS := HS.here hb_
          clear hb_
          refine ⟨_, rfl, ?_⟩
          refine p_run _ (x_pick true (.bool true) (.bool false) (.bool true) rfl rfl rfl rfl rfl) rfl ?_
          refine p_run _ (x_move (.bool true) rfl rfl) rfl ?_
          refine p_on rfl (by rw [hops48]; rfl) ?_
          refine p_run _ (x_field (j := 11) _ _ rfl rfl Try.underlying33 rfl (by rfl) rfl) rfl ?_
          refine p_on rfl (by rw [hops48]; rfl) ?_
          refine p_run (l' := (mgV m A c B d :: mgV n A2 c2 B2 d2 :: .pointer (some ⟨g5, 0, none⟩) :: .pointer (some ⟨g8, 0, none⟩) :: .bool false :: .bool true :: .bool true :: V8.l q14 (V8.l q15 (V8.l q16 (V8.l q17 (q18.a :: V8.l q23 (V8.l q24 (q25.a :: q25.b :: q25.c :: .bool true :: .bool true :: .bool true :: .bool true :: .bool true :: .pointer (some ⟨g5, 10, none⟩) :: .slice A m.its.length c :: .pointer (some ⟨g8, 10, none⟩) :: .slice A2 n.its.length c2 :: .bool true :: .bool true :: .bool true :: .pointer (some ⟨g5, 11, none⟩) :: .slice B m.hvs.length d :: U4f7 ([]))))))))) _ (x_load (.slice B m.hvs.length d) rfl rfl (bkCell (HS.get (.tail _ (.head _))) 11 _ rfl) (by rfl)) rfl ?_
          refine p_on rfl (by rw [hops48]; rfl) ?_
          refine p_run _ (x_field (j := 11) _ _ rfl rfl Try.underlying33 rfl (by rfl) rfl) rfl ?_
          refine p_on rfl (by rw [hops48]; rfl) ?_
          refine p_run _ (x_load (.slice B2 n.hvs.length d2) rfl rfl (bkCell (HS.get (.head _)) 11 _ rfl) (by rfl)) rfl ?_
          refine p_on rfl (by rw [hops48]; rfl) ?_
          refine w_call [.slice B m.hvs.length d, .slice B2 n.hvs.length d2] Try.func39 (by kernel_rfl) (by rfl) rfl ?_
          refine (hvs_equal _ B d m.hvs (Kd.C_below hB HS.belowOf) B2 d2 n.hvs (Kd.C_below hB2 HS.belowOf) hl2 hn2).mono ?_
          rintro e w51 ⟨rfl, hb_⟩
          replace HS := HS.here hb_
          clear hb_
          refine ⟨_, rfl, ?_⟩
          refine p_run _ (x_pick true (.bool (decide (m.hvs = n.hvs))) (.bool false) (.bool (decide (m.hvs = n.hvs))) rfl rfl rfl rfl rfl) rfl ?_
          refine p_run _ (x_assign (.bool (decide (m.hvs = n.hvs))) rfl rfl) rfl ?_
          clear hops48
          refine wpList_nil ?_
          obtain ⟨qz52, hqz52⟩ : ∃ q_ : V8, q_ = ⟨q14.b, q14.c, q14.d, q14.e, q14.f, q14.g, q14.h, q15.a⟩ := ⟨_, rfl⟩
          obtain ⟨qz53, hqz53⟩ : ∃ q_ : V8, q_ = ⟨q15.b, q15.c, q15.d, q15.e, q15.f, q15.g, q15.h, q16.a⟩ := ⟨_, rfl⟩
          obtain ⟨qz54, hqz54⟩ : ∃ q_ : V8, q_ = ⟨q16.b, q16.c, q16.d, q16.e, q16.f, q16.g, q16.h, q17.a⟩ := ⟨_, rfl⟩
          obtain ⟨qz55, hqz55⟩ : ∃ q_ : V8, q_ = ⟨q17.b, q17.c, q17.d, q17.e, q17.f, q17.g, q17.h, q18.a⟩ := ⟨_, rfl⟩
          obtain ⟨qz56, hqz56⟩ : ∃ q_ : V8, q_ = ⟨q25.a, q25.b, q25.c, .bool true, .bool true, .bool true, .bool true, .bool true⟩ := ⟨_, rfl⟩
          obtain ⟨qz57, hqz57⟩ : ∃ q_ : V8, q_ = ⟨.pointer (some ⟨g5, 10, none⟩), .slice A m.its.length c, .pointer (some ⟨g8, 10, none⟩), .slice A2 n.its.length c2, .bool true, .bool true, .bool true, .pointer (some ⟨g5, 11, none⟩)⟩ := ⟨_, rfl⟩
          refine fr_at (l' := (mgV m A c B d :: mgV n A2 c2 B2 d2 :: .pointer (some ⟨g5, 0, none⟩) :: .pointer (some ⟨g8, 0, none⟩) :: .bool (decide (m.hvs = n.hvs)) :: .bool true :: .bool true :: q14.a :: V8.l qz52 (V8.l qz53 (V8.l qz54 (V8.l qz55 (V8.l q23 (V8.l q24 (V8.l qz56 (V8.l qz57 (.slice B m.hvs.length d :: .pointer (some ⟨g8, 11, none⟩) :: .slice B2 n.hvs.length d2 :: .bool (decide (m.hvs = n.hvs)) :: .bool (decide (m.hvs = n.hvs)) :: [])))))))))) (by subst hqz52 hqz53 hqz54 hqz55 hqz56 hqz57; rfl) ?_
          refine hK28 _ _ ?_
          refine wp_ret ?_
          try simp only [Exit.inBlock, Exit.then]
          refine c_ret (.bool (decide (m.hvs = n.hvs))) (r_tmp rfl rfl) ?_
          have e1 : smB m n = (decide (m.hvs = n.hvs)) := by unfold smB; rw [← hb5, ← hb6, decide_eq_true h7]; simp
          rw [e1]
          exact ⟨rfl, HS.belowOf⟩
      clear hK21
      rcases fst3 (m.ix = n.ix) (m.tt = n.tt) (m.tk = n.tk) with hk | ⟨q0, hk⟩ | ⟨q0, q1, hk⟩ | ⟨q0, q1, q2⟩
      · skip
        refine c_region (fun ops59 hops58 => ?_)
        refine p_run _ (x_field (j := 7) _ _ rfl rfl Try.underlying33 rfl (by rfl) rfl) rfl ?_
        refine p_run _ (x_load (.int .i64 m.ix) rfl rfl (bkCell (HS.get (.tail _ (.head _))) 7 _ rfl) (by rfl)) rfl ?_
        refine p_run _ (x_field (j := 7) _ _ rfl rfl Try.underlying33 rfl (by rfl) rfl) rfl ?_
        refine p_run _ (x_load (.int .i64 n.ix) rfl rfl (bkCell (HS.get (.head _)) 7 _ rfl) (by rfl)) rfl ?_
        refine p_run _ (x_cmp (k := .i64) (m := m.ix) (n := n.ix) .eql false rfl rfl rfl (eql_no hk) rfl) rfl ?_
        refine p_run _ (x_move (.bool false) rfl rfl) rfl ?_
        refine p_off (l' := (mgV m A c B d :: mgV n A2 c2 B2 d2 :: .pointer (some ⟨g5, 0, none⟩) :: .pointer (some ⟨g8, 0, none⟩) :: .bool false :: .bool b5 :: undef :: V8.l q14 (V8.l q15 (V8.l q16 (V8.l q17 (q18.a :: .pointer (some ⟨g5, 7, none⟩) :: .int .i64 m.ix :: .pointer (some ⟨g8, 7, none⟩) :: .int .i64 n.ix :: .bool false :: .bool false :: U16f7 (U8f7 (U4f7 (undef :: undef :: undef :: []))))))))) (by rw [hops58]; rfl) rfl ?_
        refine p_off (by rw [hops58]; rfl) rfl ?_
        refine p_off (by rw [hops58]; rfl) rfl ?_
        refine p_off (by rw [hops58]; rfl) rfl ?_
        refine p_off (by rw [hops58]; rfl) rfl ?_
        refine p_run _ (x_pick false (undef) (.bool false) (.bool false) rfl rfl rfl rfl rfl) rfl ?_
        refine p_run _ (x_move (.bool false) rfl rfl) rfl ?_
        refine p_off (l' := (mgV m A c B d :: mgV n A2 c2 B2 d2 :: .pointer (some ⟨g5, 0, none⟩) :: .pointer (some ⟨g8, 0, none⟩) :: .bool false :: .bool b5 :: undef :: V8.l q14 (V8.l q15 (V8.l q16 (V8.l q17 (q18.a :: .pointer (some ⟨g5, 7, none⟩) :: .int .i64 m.ix :: .pointer (some ⟨g8, 7, none⟩) :: .int .i64 n.ix :: .bool false :: .bool false :: U4f7 (undef :: .bool false :: .bool false :: U16f7 (U8f7 ([]))))))))) (by rw [hops58]; rfl) rfl ?_
        refine p_off (by rw [hops58]; rfl) rfl ?_
        refine p_off (by rw [hops58]; rfl) rfl ?_
        refine p_off (by rw [hops58]; rfl) rfl ?_
        refine p_off (by rw [hops58]; rfl) rfl ?_
        refine p_run _ (x_pick false (undef) (.bool false) (.bool false) rfl rfl rfl rfl rfl) rfl ?_
        refine p_run _ (x_assign (.bool false) rfl rfl) rfl ?_
        clear hops58
        refine wpList_nil ?_
        obtain ⟨qz60, hqz60⟩ : ∃ q_ : V8, q_ = ⟨.pointer (some ⟨g5, 7, none⟩), .int .i64 m.ix, .pointer (some ⟨g8, 7, none⟩), .int .i64 n.ix, .bool false, .bool false, undef, undef⟩ := ⟨_, rfl⟩
        obtain ⟨qz61, hqz61⟩ : ∃ q_ : V8, q_ = ⟨undef, undef, undef, .bool false, .bool false, undef, undef, undef⟩ := ⟨_, rfl⟩
        refine fr_at (l' := (mgV m A c B d :: mgV n A2 c2 B2 d2 :: .pointer (some ⟨g5, 0, none⟩) :: .pointer (some ⟨g8, 0, none⟩) :: .bool false :: .bool b5 :: .bool false :: V8.l q14 (V8.l q15 (V8.l q16 (V8.l q17 (q18.a :: V8.l qz60 (V8.l qz61 (undef :: undef :: .bool false :: U16f7 (undef :: undef :: []))))))))) (by subst hqz60 hqz61; rfl) ?_
        exact hT22 false ⟨qz60.a, qz60.b, qz60.c, qz60.d, qz60.e, qz60.f, qz60.g, qz60.h⟩ ⟨qz61.a, qz61.b, qz61.c, qz61.d, qz61.e, qz61.f, qz61.g, qz61.h⟩ ⟨undef, undef, .bool false, undef, undef, undef, undef, undef⟩ _ ((HS.front 1 rfl).front 1 rfl) (Eq.symm (by unfold rtB; rw [decide_eq_false hk]; simp))
      · skip
        refine c_region (fun ops63 hops62 => ?_)
        refine p_run _ (x_field (j := 7) _ _ rfl rfl Try.underlying33 rfl (by rfl) rfl) rfl ?_
        refine p_run _ (x_load (.int .i64 m.ix) rfl rfl (bkCell (HS.get (.tail _ (.head _))) 7 _ rfl) (by rfl)) rfl ?_
        refine p_run _ (x_field (j := 7) _ _ rfl rfl Try.underlying33 rfl (by rfl) rfl) rfl ?_
        refine p_run _ (x_load (.int .i64 n.ix) rfl rfl (bkCell (HS.get (.head _)) 7 _ rfl) (by rfl)) rfl ?_
        refine p_run _ (x_cmp (k := .i64) (m := m.ix) (n := n.ix) .eql true rfl rfl rfl (eql_yes q0) rfl) rfl ?_
        refine p_run _ (x_move (.bool true) rfl rfl) rfl ?_
        refine p_on rfl (by rw [hops62]; rfl) ?_
        refine p_run (l' := (mgV m A c B d :: mgV n A2 c2 B2 d2 :: .pointer (some ⟨g5, 0, none⟩) :: .pointer (some ⟨g8, 0, none⟩) :: .bool false :: .bool b5 :: undef :: V8.l q14 (V8.l q15 (V8.l q16 (V8.l q17 (q18.a :: .pointer (some ⟨g5, 7, none⟩) :: .int .i64 m.ix :: .pointer (some ⟨g8, 7, none⟩) :: .int .i64 n.ix :: .bool true :: .bool true :: .pointer (some ⟨g5, 8, none⟩) :: U16f7 (U8f7 (U4f7 (undef :: undef :: []))))))))) _ (x_field (j := 8) _ _ rfl rfl Try.underlying33 rfl (by rfl) rfl) rfl ?_
        refine p_on rfl (by rw [hops62]; rfl) ?_
        refine p_run _ (x_load (.int .i64 m.tt) rfl rfl (bkCell (HS.get (.tail _ (.head _))) 8 _ rfl) (by rfl)) rfl ?_
        refine p_on rfl (by rw [hops62]; rfl) ?_
        refine p_run _ (x_field (j := 8) _ _ rfl rfl Try.underlying33 rfl (by rfl) rfl) rfl ?_
        refine p_on rfl (by rw [hops62]; rfl) ?_
        refine p_run _ (x_load (.int .i64 n.tt) rfl rfl (bkCell (HS.get (.head _)) 8 _ rfl) (by rfl)) rfl ?_
        refine p_on rfl (by rw [hops62]; rfl) ?_
        refine p_run _ (x_cmp (k := .i64) (m := m.tt) (n := n.tt) .eql false rfl rfl rfl (eql_no hk) rfl) rfl ?_
        refine p_run _ (x_pick true (.bool false) (.bool false) (.bool false) rfl rfl rfl rfl rfl) rfl ?_
        refine p_run _ (x_move (.bool false) rfl rfl) rfl ?_
        refine p_off (l' := (mgV m A c B d :: mgV n A2 c2 B2 d2 :: .pointer (some ⟨g5, 0, none⟩) :: .pointer (some ⟨g8, 0, none⟩) :: .bool false :: .bool b5 :: undef :: V8.l q14 (V8.l q15 (V8.l q16 (V8.l q17 (q18.a :: .pointer (some ⟨g5, 7, none⟩) :: .int .i64 m.ix :: .pointer (some ⟨g8, 7, none⟩) :: .int .i64 n.ix :: .bool true :: .bool true :: .pointer (some ⟨g5, 8, none⟩) :: .int .i64 m.tt :: .pointer (some ⟨g8, 8, none⟩) :: .int .i64 n.tt :: .bool false :: .bool false :: .bool false :: U16f7 (U8f7 ([])))))))) (by rw [hops62]; rfl) rfl ?_
        refine p_off (by rw [hops62]; rfl) rfl ?_
        refine p_off (by rw [hops62]; rfl) rfl ?_
        refine p_off (by rw [hops62]; rfl) rfl ?_
        refine p_off (by rw [hops62]; rfl) rfl ?_
        refine p_run _ (x_pick false (undef) (.bool false) (.bool false) rfl rfl rfl rfl rfl) rfl ?_
        refine p_run _ (x_assign (.bool false) rfl rfl) rfl ?_
        clear hops62
        refine wpList_nil ?_
        obtain ⟨qz64, hqz64⟩ : ∃ q_ : V8, q_ = ⟨.pointer (some ⟨g5, 7, none⟩), .int .i64 m.ix, .pointer (some ⟨g8, 7, none⟩), .int .i64 n.ix, .bool true, .bool true, .pointer (some ⟨g5, 8, none⟩), .int .i64 m.tt⟩ := ⟨_, rfl⟩
        obtain ⟨qz65, hqz65⟩ : ∃ q_ : V8, q_ = ⟨.pointer (some ⟨g8, 8, none⟩), .int .i64 n.tt, .bool false, .bool false, .bool false, undef, undef, undef⟩ := ⟨_, rfl⟩
        refine fr_at (l' := (mgV m A c B d :: mgV n A2 c2 B2 d2 :: .pointer (some ⟨g5, 0, none⟩) :: .pointer (some ⟨g8, 0, none⟩) :: .bool false :: .bool b5 :: .bool false :: V8.l q14 (V8.l q15 (V8.l q16 (V8.l q17 (q18.a :: V8.l qz64 (V8.l qz65 (undef :: undef :: .bool false :: U16f7 (undef :: undef :: []))))))))) (by subst hqz64 hqz65; rfl) ?_
        exact hT22 false ⟨qz64.a, qz64.b, qz64.c, qz64.d, qz64.e, qz64.f, qz64.g, qz64.h⟩ ⟨qz65.a, qz65.b, qz65.c, qz65.d, qz65.e, qz65.f, qz65.g, qz65.h⟩ ⟨undef, undef, .bool false, undef, undef, undef, undef, undef⟩ _ ((HS.front 1 rfl).front 1 rfl) (Eq.symm (by unfold rtB; rw [decide_eq_true q0, decide_eq_false hk]; simp))
      · skip
        refine c_region (fun ops67 hops66 => ?_)
        refine p_run _ (x_field (j := 7) _ _ rfl rfl Try.underlying33 rfl (by rfl) rfl) rfl ?_
        refine p_run _ (x_load (.int .i64 m.ix) rfl rfl (bkCell (HS.get (.tail _ (.head _))) 7 _ rfl) (by rfl)) rfl ?_
        refine p_run _ (x_field (j := 7) _ _ rfl rfl Try.underlying33 rfl (by rfl) rfl) rfl ?_
        refine p_run _ (x_load (.int .i64 n.ix) rfl rfl (bkCell (HS.get (.head _)) 7 _ rfl) (by rfl)) rfl ?_
        refine p_run _ (x_cmp (k := .i64) (m := m.ix) (n := n.ix) .eql true rfl rfl rfl (eql_yes q0) rfl) rfl ?_
        refine p_run _ (x_move (.bool true) rfl rfl) rfl ?_
        refine p_on rfl (by rw [hops66]; rfl) ?_
        refine p_run (l' := (mgV m A c B d :: mgV n A2 c2 B2 d2 :: .pointer (some ⟨g5, 0, none⟩) :: .pointer (some ⟨g8, 0, none⟩) :: .bool false :: .bool b5 :: undef :: V8.l q14 (V8.l q15 (V8.l q16 (V8.l q17 (q18.a :: .pointer (some ⟨g5, 7, none⟩) :: .int .i64 m.ix :: .pointer (some ⟨g8, 7, none⟩) :: .int .i64 n.ix :: .bool true :: .bool true :: .pointer (some ⟨g5, 8, none⟩) :: U16f7 (U8f7 (U4f7 (undef :: undef :: []))))))))) _ (x_field (j := 8) _ _ rfl rfl Try.underlying33 rfl (by rfl) rfl) rfl ?_
        refine p_on rfl (by rw [hops66]; rfl) ?_
        refine p_run _ (x_load (.int .i64 m.tt) rfl rfl (bkCell (HS.get (.tail _ (.head _))) 8 _ rfl) (by rfl)) rfl ?_
        refine p_on rfl (by rw [hops66]; rfl) ?_
        refine p_run _ (x_field (j := 8) _ _ rfl rfl Try.underlying33 rfl (by rfl) rfl) rfl ?_
        refine p_on rfl (by rw [hops66]; rfl) ?_
        refine p_run _ (x_load (.int .i64 n.tt) rfl rfl (bkCell (HS.get (.head _)) 8 _ rfl) (by rfl)) rfl ?_
        refine p_on rfl (by rw [hops66]; rfl) ?_
        refine p_run _ (x_cmp (k := .i64) (m := m.tt) (n := n.tt) .eql true rfl rfl rfl (eql_yes q1) rfl) rfl ?_
        refine p_run _ (x_pick true (.bool true) (.bool false) (.bool true) rfl rfl rfl rfl rfl) rfl ?_
        refine p_run _ (x_move (.bool true) rfl rfl) rfl ?_
        refine p_on rfl (by rw [hops66]; rfl) ?_
        refine p_run (l' := (mgV m A c B d :: mgV n A2 c2 B2 d2 :: .pointer (some ⟨g5, 0, none⟩) :: .pointer (some ⟨g8, 0, none⟩) :: .bool false :: .bool b5 :: undef :: V8.l q14 (V8.l q15 (V8.l q16 (V8.l q17 (q18.a :: .pointer (some ⟨g5, 7, none⟩) :: .int .i64 m.ix :: .pointer (some ⟨g8, 7, none⟩) :: .int .i64 n.ix :: .bool true :: .bool true :: .pointer (some ⟨g5, 8, none⟩) :: .int .i64 m.tt :: .pointer (some ⟨g8, 8, none⟩) :: .int .i64 n.tt :: .bool true :: .bool true :: .bool true :: .pointer (some ⟨g5, 9, none⟩) :: U16f7 (U4f7 (undef :: undef :: undef :: [])))))))) _ (x_field (j := 9) _ _ rfl rfl Try.underlying33 rfl (by rfl) rfl) rfl ?_
        refine p_on rfl (by rw [hops66]; rfl) ?_
        refine p_run _ (x_load (.int .u32 m.tk) rfl rfl (bkCell (HS.get (.tail _ (.head _))) 9 _ rfl) (by rfl)) rfl ?_
        refine p_on rfl (by rw [hops66]; rfl) ?_
        refine p_run _ (x_field (j := 9) _ _ rfl rfl Try.underlying33 rfl (by rfl) rfl) rfl ?_
        refine p_on rfl (by rw [hops66]; rfl) ?_
        refine p_run _ (x_load (.int .u32 n.tk) rfl rfl (bkCell (HS.get (.head _)) 9 _ rfl) (by rfl)) rfl ?_
        refine p_on rfl (by rw [hops66]; rfl) ?_
        refine p_run _ (x_cmp (k := .u32) (m := m.tk) (n := n.tk) .eql false rfl rfl rfl (eql_no hk) rfl) rfl ?_
        refine p_run _ (x_pick true (.bool false) (.bool false) (.bool false) rfl rfl rfl rfl rfl) rfl ?_
        refine p_run _ (x_assign (.bool false) rfl rfl) rfl ?_
        clear hops66
        refine wpList_nil ?_
        obtain ⟨qz68, hqz68⟩ : ∃ q_ : V8, q_ = ⟨.pointer (some ⟨g5, 7, none⟩), .int .i64 m.ix, .pointer (some ⟨g8, 7, none⟩), .int .i64 n.ix, .bool true, .bool true, .pointer (some ⟨g5, 8, none⟩), .int .i64 m.tt⟩ := ⟨_, rfl⟩
        obtain ⟨qz69, hqz69⟩ : ∃ q_ : V8, q_ = ⟨.pointer (some ⟨g8, 8, none⟩), .int .i64 n.tt, .bool true, .bool true, .bool true, .pointer (some ⟨g5, 9, none⟩), .int .u32 m.tk, .pointer (some ⟨g8, 9, none⟩)⟩ := ⟨_, rfl⟩
        refine fr_at (l' := (mgV m A c B d :: mgV n A2 c2 B2 d2 :: .pointer (some ⟨g5, 0, none⟩) :: .pointer (some ⟨g8, 0, none⟩) :: .bool false :: .bool b5 :: .bool false :: V8.l q14 (V8.l q15 (V8.l q16 (V8.l q17 (q18.a :: V8.l qz68 (V8.l qz69 (.int .u32 n.tk :: .bool false :: .bool false :: U16f7 (undef :: undef :: []))))))))) (by subst hqz68 hqz69; rfl) ?_
        exact hT22 false ⟨qz68.a, qz68.b, qz68.c, qz68.d, qz68.e, qz68.f, qz68.g, qz68.h⟩ ⟨qz69.a, qz69.b, qz69.c, qz69.d, qz69.e, qz69.f, qz69.g, qz69.h⟩ ⟨.int .u32 n.tk, .bool false, .bool false, undef, undef, undef, undef, undef⟩ _ ((HS.front 1 rfl).front 1 rfl) (Eq.symm (by unfold rtB; rw [decide_eq_true q0, decide_eq_true q1, decide_eq_false hk]; simp))
      · skip
        refine c_region (fun ops71 hops70 => ?_)
        refine p_run _ (x_field (j := 7) _ _ rfl rfl Try.underlying33 rfl (by rfl) rfl) rfl ?_
        refine p_run _ (x_load (.int .i64 m.ix) rfl rfl (bkCell (HS.get (.tail _ (.head _))) 7 _ rfl) (by rfl)) rfl ?_
        refine p_run _ (x_field (j := 7) _ _ rfl rfl Try.underlying33 rfl (by rfl) rfl) rfl ?_
        refine p_run _ (x_load (.int .i64 n.ix) rfl rfl (bkCell (HS.get (.head _)) 7 _ rfl) (by rfl)) rfl ?_
        refine p_run _ (x_cmp (k := .i64) (m := m.ix) (n := n.ix) .eql true rfl rfl rfl (eql_yes q0) rfl) rfl ?_
        refine p_run _ (x_move (.bool true) rfl rfl) rfl ?_
        refine p_on rfl (by rw [hops70]; rfl) ?_
        refine p_run (l' := (mgV m A c B d :: mgV n A2 c2 B2 d2 :: .pointer (some ⟨g5, 0, none⟩) :: .pointer (some ⟨g8, 0, none⟩) :: .bool false :: .bool b5 :: undef :: V8.l q14 (V8.l q15 (V8.l q16 (V8.l q17 (q18.a :: .pointer (some ⟨g5, 7, none⟩) :: .int .i64 m.ix :: .pointer (some ⟨g8, 7, none⟩) :: .int .i64 n.ix :: .bool true :: .bool true :: .pointer (some ⟨g5, 8, none⟩) :: U16f7 (U8f7 (U4f7 (undef :: undef :: []))))))))) _ (x_field (j := 8) _ _ rfl rfl Try.underlying33 rfl (by rfl) rfl) rfl ?_
        refine p_on rfl (by rw [hops70]; rfl) ?_
        refine p_run _ (x_load (.int .i64 m.tt) rfl rfl (bkCell (HS.get (.tail _ (.head _))) 8 _ rfl) (by rfl)) rfl ?_
        refine p_on rfl (by rw [hops70]; rfl) ?_
        refine p_run _ (x_field (j := 8) _ _ rfl rfl Try.underlying33 rfl (by rfl) rfl) rfl ?_
        refine p_on rfl (by rw [hops70]; rfl) ?_
        refine p_run _ (x_load (.int .i64 n.tt) rfl rfl (bkCell (HS.get (.head _)) 8 _ rfl) (by rfl)) rfl ?_
        refine p_on rfl (by rw [hops70]; rfl) ?_
        refine p_run _ (x_cmp (k := .i64) (m := m.tt) (n := n.tt) .eql true rfl rfl rfl (eql_yes q1) rfl) rfl ?_
        refine p_run _ (x_pick true (.bool true) (.bool false) (.bool true) rfl rfl rfl rfl rfl) rfl ?_
        refine p_run _ (x_move (.bool true) rfl rfl) rfl ?_
        refine p_on rfl (by rw [hops70]; rfl) ?_
        refine p_run (l' := (mgV m A c B d :: mgV n A2 c2 B2 d2 :: .pointer (some ⟨g5, 0, none⟩) :: .pointer (some ⟨g8, 0, none⟩) :: .bool false :: .bool b5 :: undef :: V8.l q14 (V8.l q15 (V8.l q16 (V8.l q17 (q18.a :: .pointer (some ⟨g5, 7, none⟩) :: .int .i64 m.ix :: .pointer (some ⟨g8, 7, none⟩) :: .int .i64 n.ix :: .bool true :: .bool true :: .pointer (some ⟨g5, 8, none⟩) :: .int .i64 m.tt :: .pointer (some ⟨g8, 8, none⟩) :: .int .i64 n.tt :: .bool true :: .bool true :: .bool true :: .pointer (some ⟨g5, 9, none⟩) :: U16f7 (U4f7 (undef :: undef :: undef :: [])))))))) _ (x_field (j := 9) _ _ rfl rfl Try.underlying33 rfl (by rfl) rfl) rfl ?_
        refine p_on rfl (by rw [hops70]; rfl) ?_
        refine p_run _ (x_load (.int .u32 m.tk) rfl rfl (bkCell (HS.get (.tail _ (.head _))) 9 _ rfl) (by rfl)) rfl ?_
        refine p_on rfl (by rw [hops70]; rfl) ?_
        refine p_run _ (x_field (j := 9) _ _ rfl rfl Try.underlying33 rfl (by rfl) rfl) rfl ?_
        refine p_on rfl (by rw [hops70]; rfl) ?_
        refine p_run _ (x_load (.int .u32 n.tk) rfl rfl (bkCell (HS.get (.head _)) 9 _ rfl) (by rfl)) rfl ?_
        refine p_on rfl (by rw [hops70]; rfl) ?_
        refine p_run _ (x_cmp (k := .u32) (m := m.tk) (n := n.tk) .eql true rfl rfl rfl (eql_yes q2) rfl) rfl ?_
        refine p_run _ (x_pick true (.bool true) (.bool false) (.bool true) rfl rfl rfl rfl rfl) rfl ?_
        refine p_run _ (x_assign (.bool true) rfl rfl) rfl ?_
        clear hops70
        refine wpList_nil ?_
        obtain ⟨qz72, hqz72⟩ : ∃ q_ : V8, q_ = ⟨.pointer (some ⟨g5, 7, none⟩), .int .i64 m.ix, .pointer (some ⟨g8, 7, none⟩), .int .i64 n.ix, .bool true, .bool true, .pointer (some ⟨g5, 8, none⟩), .int .i64 m.tt⟩ := ⟨_, rfl⟩
        obtain ⟨qz73, hqz73⟩ : ∃ q_ : V8, q_ = ⟨.pointer (some ⟨g8, 8, none⟩), .int .i64 n.tt, .bool true, .bool true, .bool true, .pointer (some ⟨g5, 9, none⟩), .int .u32 m.tk, .pointer (some ⟨g8, 9, none⟩)⟩ := ⟨_, rfl⟩
        refine fr_at (l' := (mgV m A c B d :: mgV n A2 c2 B2 d2 :: .pointer (some ⟨g5, 0, none⟩) :: .pointer (some ⟨g8, 0, none⟩) :: .bool false :: .bool b5 :: .bool true :: V8.l q14 (V8.l q15 (V8.l q16 (V8.l q17 (q18.a :: V8.l qz72 (V8.l qz73 (.int .u32 n.tk :: .bool true :: .bool true :: U16f7 (undef :: undef :: []))))))))) (by subst hqz72 hqz73; rfl) ?_
        exact hT22 true ⟨qz72.a, qz72.b, qz72.c, qz72.d, qz72.e, qz72.f, qz72.g, qz72.h⟩ ⟨qz73.a, qz73.b, qz73.c, qz73.d, qz73.e, qz73.f, qz73.g, qz73.h⟩ ⟨.int .u32 n.tk, .bool true, .bool true, undef, undef, undef, undef, undef⟩ _ ((HS.front 1 rfl).front 1 rfl) (Eq.symm (by unfold rtB; rw [decide_eq_true q0, decide_eq_true q1, decide_eq_true q2]; rfl))
    clear hK12
    rcases fst5 (m.k = n.k) (m.e = n.e) (m.s = n.s) (m.te = n.te ∧ m.ts = n.ts) (m.be = n.be ∧ m.bs = n.bs) with hk | ⟨q0, hk⟩ | ⟨q0, q1, hk⟩ | ⟨q0, q1, q2, hk⟩ | ⟨q0, q1, q2, q3, hk⟩ | ⟨q0, q1, q2, q3, q4⟩
    · skip
      refine c_region (fun ops75 hops74 => ?_)
      refine p_run _ (x_field (j := 0) _ _ rfl rfl Try.underlying33 rfl (by rfl) rfl) rfl ?_
      refine p_run _ (x_load (.int .i64 m.k) rfl rfl (bkCell (HS.get (.tail _ (.head _))) 0 _ rfl) (by rfl)) rfl ?_
      refine p_run _ (x_field (j := 0) _ _ rfl rfl Try.underlying33 rfl (by rfl) rfl) rfl ?_
      refine p_run _ (x_load (.int .i64 n.k) rfl rfl (bkCell (HS.get (.head _)) 0 _ rfl) (by rfl)) rfl ?_
      refine p_run _ (x_cmp (k := .i64) (m := m.k) (n := n.k) .eql false rfl rfl rfl (eql_no hk) rfl) rfl ?_
      refine p_run _ (x_move (.bool false) rfl rfl) rfl ?_
      refine p_off (l' := (mgV m A c B d :: mgV n A2 c2 B2 d2 :: .pointer (some ⟨g5, 0, none⟩) :: .pointer (some ⟨g8, 0, none⟩) :: .bool false :: undef :: undef :: .pointer (some ⟨g5, 0, none⟩) :: .int .i64 m.k :: .pointer (some ⟨g8, 0, none⟩) :: .int .i64 n.k :: .bool false :: .bool false :: U64f7 ([]))) (by rw [hops74]; rfl) rfl ?_
      refine p_off (by rw [hops74]; rfl) rfl ?_
      refine p_off (by rw [hops74]; rfl) rfl ?_
      refine p_off (by rw [hops74]; rfl) rfl ?_
      refine p_off (by rw [hops74]; rfl) rfl ?_
      refine p_run _ (x_pick false (undef) (.bool false) (.bool false) rfl rfl rfl rfl rfl) rfl ?_
      refine p_run _ (x_move (.bool false) rfl rfl) rfl ?_
      refine p_off (l' := (mgV m A c B d :: mgV n A2 c2 B2 d2 :: .pointer (some ⟨g5, 0, none⟩) :: .pointer (some ⟨g8, 0, none⟩) :: .bool false :: undef :: undef :: .pointer (some ⟨g5, 0, none⟩) :: .int .i64 m.k :: .pointer (some ⟨g8, 0, none⟩) :: .int .i64 n.k :: .bool false :: .bool false :: U4f7 (undef :: .bool false :: .bool false :: U32f7 (U16f7 (U8f7 (undef :: [])))))) (by rw [hops74]; rfl) rfl ?_
      refine p_off (by rw [hops74]; rfl) rfl ?_
      refine p_off (by rw [hops74]; rfl) rfl ?_
      refine p_off (by rw [hops74]; rfl) rfl ?_
      refine p_off (by rw [hops74]; rfl) rfl ?_
      refine p_run _ (x_pick false (undef) (.bool false) (.bool false) rfl rfl rfl rfl rfl) rfl ?_
      refine p_run _ (x_move (.bool false) rfl rfl) rfl ?_
      refine p_off (l' := (mgV m A c B d :: mgV n A2 c2 B2 d2 :: .pointer (some ⟨g5, 0, none⟩) :: .pointer (some ⟨g8, 0, none⟩) :: .bool false :: undef :: undef :: .pointer (some ⟨g5, 0, none⟩) :: .int .i64 m.k :: .pointer (some ⟨g8, 0, none⟩) :: .int .i64 n.k :: .bool false :: .bool false :: U4f7 (undef :: .bool false :: .bool false :: U4f7 (undef :: .bool false :: .bool false :: U32f7 (U16f7 (undef :: undef :: [])))))) (by rw [hops74]; rfl) rfl ?_
      refine p_off (by rw [hops74]; rfl) rfl ?_
      refine p_off (by rw [hops74]; rfl) rfl ?_
      refine p_off (by rw [hops74]; rfl) rfl ?_
      refine p_off (by rw [hops74]; rfl) rfl ?_
      refine p_run _ (x_pick false (undef) (.bool false) (.bool false) rfl rfl rfl rfl rfl) rfl ?_
      refine p_run _ (x_move (.bool false) rfl rfl) rfl ?_
      refine p_off (l' := (mgV m A c B d :: mgV n A2 c2 B2 d2 :: .pointer (some ⟨g5, 0, none⟩) :: .pointer (some ⟨g8, 0, none⟩) :: .bool false :: undef :: undef :: .pointer (some ⟨g5, 0, none⟩) :: .int .i64 m.k :: .pointer (some ⟨g8, 0, none⟩) :: .int .i64 n.k :: .bool false :: .bool false :: U4f7 (undef :: .bool false :: .bool false :: U4f7 (undef :: .bool false :: .bool false :: U4f7 (undef :: .bool false :: .bool false :: U32f7 (U8f7 (undef :: undef :: undef :: []))))))) (by rw [hops74]; rfl) rfl ?_
      refine p_off (by rw [hops74]; rfl) rfl ?_
      refine p_off (by rw [hops74]; rfl) rfl ?_
      refine p_off (by rw [hops74]; rfl) rfl ?_
      refine p_off (by rw [hops74]; rfl) rfl ?_
      refine p_run _ (x_pick false (undef) (.bool false) (.bool false) rfl rfl rfl rfl rfl) rfl ?_
      refine p_run _ (x_assign (.bool false) rfl rfl) rfl ?_
      clear hops74
      refine wpList_nil ?_
      obtain ⟨qz76, hqz76⟩ : ∃ q_ : V8, q_ = ⟨.int .i64 m.k, .pointer (some ⟨g8, 0, none⟩), .int .i64 n.k, .bool false, .bool false, undef, undef, undef⟩ := ⟨_, rfl⟩
      obtain ⟨qz77, hqz77⟩ : ∃ q_ : V8, q_ = ⟨undef, undef, .bool false, .bool false, undef, undef, undef, undef⟩ := ⟨_, rfl⟩
      obtain ⟨qz78, hqz78⟩ : ∃ q_ : V8, q_ = ⟨undef, .bool false, .bool false, undef, undef, undef, undef, undef⟩ := ⟨_, rfl⟩
      obtain ⟨qz79, hqz79⟩ : ∃ q_ : V8, q_ = ⟨.bool false, .bool false, undef, undef, undef, undef, undef, .bool false⟩ := ⟨_, rfl⟩
      refine fr_at (l' := (mgV m A c B d :: mgV n A2 c2 B2 d2 :: .pointer (some ⟨g5, 0, none⟩) :: .pointer (some ⟨g8, 0, none⟩) :: .bool false :: .bool false :: undef :: .pointer (some ⟨g5, 0, none⟩) :: V8.l qz76 (V8.l qz77 (V8.l qz78 (V8.l qz79 (U32f7 (U4f7 (undef :: [])))))))) (by subst hqz76 hqz77 hqz78 hqz79; rfl) ?_
      exact hT13 false ⟨.pointer (some ⟨g5, 0, none⟩), qz76.a, qz76.b, qz76.c, qz76.d, qz76.e, qz76.f, qz76.g⟩ ⟨qz76.h, qz77.a, qz77.b, qz77.c, qz77.d, qz77.e, qz77.f, qz77.g⟩ ⟨qz77.h, qz78.a, qz78.b, qz78.c, qz78.d, qz78.e, qz78.f, qz78.g⟩ ⟨qz78.h, qz79.a, qz79.b, qz79.c, qz79.d, qz79.e, qz79.f, qz79.g⟩ ⟨qz79.h, undef, undef, undef, undef, undef, undef, undef⟩ _ ((HS.front 1 rfl).front 1 rfl) (Eq.symm (by unfold hdB; rw [decide_eq_false hk]; simp))
    · skip
      refine c_region (fun ops81 hops80 => ?_)
      refine p_run _ (x_field (j := 0) _ _ rfl rfl Try.underlying33 rfl (by rfl) rfl) rfl ?_
      refine p_run _ (x_load (.int .i64 m.k) rfl rfl (bkCell (HS.get (.tail _ (.head _))) 0 _ rfl) (by rfl)) rfl ?_
      refine p_run _ (x_field (j := 0) _ _ rfl rfl Try.underlying33 rfl (by rfl) rfl) rfl ?_
      refine p_run _ (x_load (.int .i64 n.k) rfl rfl (bkCell (HS.get (.head _)) 0 _ rfl) (by rfl)) rfl ?_
      refine p_run _ (x_cmp (k := .i64) (m := m.k) (n := n.k) .eql true rfl rfl rfl (eql_yes q0) rfl) rfl ?_
      refine p_run _ (x_move (.bool true) rfl rfl) rfl ?_
      refine p_on rfl (by rw [hops80]; rfl) ?_
      refine p_run (l' := (mgV m A c B d :: mgV n A2 c2 B2 d2 :: .pointer (some ⟨g5, 0, none⟩) :: .pointer (some ⟨g8, 0, none⟩) :: .bool false :: undef :: undef :: .pointer (some ⟨g5, 0, none⟩) :: .int .i64 m.k :: .pointer (some ⟨g8, 0, none⟩) :: .int .i64 n.k :: .bool true :: .bool true :: .pointer (some ⟨g5, 1, none⟩) :: U32f7 (U16f7 (U8f7 (U4f7 (undef :: undef :: undef :: [])))))) _ (x_field (j := 1) _ _ rfl rfl Try.underlying33 rfl (by rfl) rfl) rfl ?_
      refine p_on rfl (by rw [hops80]; rfl) ?_
      refine p_run _ (x_load (.int .u32 m.e) rfl rfl (bkCell (HS.get (.tail _ (.head _))) 1 _ rfl) (by rfl)) rfl ?_
      refine p_on rfl (by rw [hops80]; rfl) ?_
      refine p_run _ (x_field (j := 1) _ _ rfl rfl Try.underlying33 rfl (by rfl) rfl) rfl ?_
      refine p_on rfl (by rw [hops80]; rfl) ?_
      refine p_run _ (x_load (.int .u32 n.e) rfl rfl (bkCell (HS.get (.head _)) 1 _ rfl) (by rfl)) rfl ?_
      refine p_on rfl (by rw [hops80]; rfl) ?_
      refine p_run _ (x_cmp (k := .u32) (m := m.e) (n := n.e) .eql false rfl rfl rfl (eql_no hk) rfl) rfl ?_
      refine p_run _ (x_pick true (.bool false) (.bool false) (.bool false) rfl rfl rfl rfl rfl) rfl ?_
      refine p_run _ (x_move (.bool false) rfl rfl) rfl ?_
      refine p_off (l' := (mgV m A c B d :: mgV n A2 c2 B2 d2 :: .pointer (some ⟨g5, 0, none⟩) :: .pointer (some ⟨g8, 0, none⟩) :: .bool false :: undef :: undef :: .pointer (some ⟨g5, 0, none⟩) :: .int .i64 m.k :: .pointer (some ⟨g8, 0, none⟩) :: .int .i64 n.k :: .bool true :: .bool true :: .pointer (some ⟨g5, 1, none⟩) :: .int .u32 m.e :: .pointer (some ⟨g8, 1, none⟩) :: .int .u32 n.e :: .bool false :: .bool false :: .bool false :: U32f7 (U16f7 (U8f7 (undef :: []))))) (by rw [hops80]; rfl) rfl ?_
      refine p_off (by rw [hops80]; rfl) rfl ?_
      refine p_off (by rw [hops80]; rfl) rfl ?_
      refine p_off (by rw [hops80]; rfl) rfl ?_
      refine p_off (by rw [hops80]; rfl) rfl ?_
      refine p_run _ (x_pick false (undef) (.bool false) (.bool false) rfl rfl rfl rfl rfl) rfl ?_
      refine p_run _ (x_move (.bool false) rfl rfl) rfl ?_
      refine p_off (l' := (mgV m A c B d :: mgV n A2 c2 B2 d2 :: .pointer (some ⟨g5, 0, none⟩) :: .pointer (some ⟨g8, 0, none⟩) :: .bool false :: undef :: undef :: .pointer (some ⟨g5, 0, none⟩) :: .int .i64 m.k :: .pointer (some ⟨g8, 0, none⟩) :: .int .i64 n.k :: .bool true :: .bool true :: .pointer (some ⟨g5, 1, none⟩) :: .int .u32 m.e :: .pointer (some ⟨g8, 1, none⟩) :: .int .u32 n.e :: .bool false :: .bool false :: .bool false :: U4f7 (undef :: .bool false :: .bool false :: U32f7 (U16f7 (undef :: undef :: []))))) (by rw [hops80]; rfl) rfl ?_
      refine p_off (by rw [hops80]; rfl) rfl ?_
      refine p_off (by rw [hops80]; rfl) rfl ?_
      refine p_off (by rw [hops80]; rfl) rfl ?_
      refine p_off (by rw [hops80]; rfl) rfl ?_
      refine p_run _ (x_pick false (undef) (.bool false) (.bool false) rfl rfl rfl rfl rfl) rfl ?_
      refine p_run _ (x_move (.bool false) rfl rfl) rfl ?_
      refine p_off (l' := (mgV m A c B d :: mgV n A2 c2 B2 d2 :: .pointer (some ⟨g5, 0, none⟩) :: .pointer (some ⟨g8, 0, none⟩) :: .bool false :: undef :: undef :: .pointer (some ⟨g5, 0, none⟩) :: .int .i64 m.k :: .pointer (some ⟨g8, 0, none⟩) :: .int .i64 n.k :: .bool true :: .bool true :: .pointer (some ⟨g5, 1, none⟩) :: .int .u32 m.e :: .pointer (some ⟨g8, 1, none⟩) :: .int .u32 n.e :: .bool false :: .bool false :: .bool false :: U4f7 (undef :: .bool false :: .bool false :: U4f7 (undef :: .bool false :: .bool false :: U32f7 (U8f7 (undef :: undef :: undef :: [])))))) (by rw [hops80]; rfl) rfl ?_
      refine p_off (by rw [hops80]; rfl) rfl ?_
      refine p_off (by rw [hops80]; rfl) rfl ?_
      refine p_off (by rw [hops80]; rfl) rfl ?_
      refine p_off (by rw [hops80]; rfl) rfl ?_
      refine p_run _ (x_pick false (undef) (.bool false) (.bool false) rfl rfl rfl rfl rfl) rfl ?_
      refine p_run _ (x_assign (.bool false) rfl rfl) rfl ?_
      clear hops80
      refine wpList_nil ?_
      obtain ⟨qz82, hqz82⟩ : ∃ q_ : V8, q_ = ⟨.int .i64 m.k, .pointer (some ⟨g8, 0, none⟩), .int .i64 n.k, .bool true, .bool true, .pointer (some ⟨g5, 1, none⟩), .int .u32 m.e, .pointer (some ⟨g8, 1, none⟩)⟩ := ⟨_, rfl⟩
      obtain ⟨qz83, hqz83⟩ : ∃ q_ : V8, q_ = ⟨.int .u32 n.e, .bool false, .bool false, .bool false, undef, undef, undef, undef⟩ := ⟨_, rfl⟩
      obtain ⟨qz84, hqz84⟩ : ∃ q_ : V8, q_ = ⟨undef, .bool false, .bool false, undef, undef, undef, undef, undef⟩ := ⟨_, rfl⟩
      obtain ⟨qz85, hqz85⟩ : ∃ q_ : V8, q_ = ⟨.bool false, .bool false, undef, undef, undef, undef, undef, .bool false⟩ := ⟨_, rfl⟩
      refine fr_at (l' := (mgV m A c B d :: mgV n A2 c2 B2 d2 :: .pointer (some ⟨g5, 0, none⟩) :: .pointer (some ⟨g8, 0, none⟩) :: .bool false :: .bool false :: undef :: .pointer (some ⟨g5, 0, none⟩) :: V8.l qz82 (V8.l qz83 (V8.l qz84 (V8.l qz85 (U32f7 (U4f7 (undef :: [])))))))) (by subst hqz82 hqz83 hqz84 hqz85; rfl) ?_
      exact hT13 false ⟨.pointer (some ⟨g5, 0, none⟩), qz82.a, qz82.b, qz82.c, qz82.d, qz82.e, qz82.f, qz82.g⟩ ⟨qz82.h, qz83.a, qz83.b, qz83.c, qz83.d, qz83.e, qz83.f, qz83.g⟩ ⟨qz83.h, qz84.a, qz84.b, qz84.c, qz84.d, qz84.e, qz84.f, qz84.g⟩ ⟨qz84.h, qz85.a, qz85.b, qz85.c, qz85.d, qz85.e, qz85.f, qz85.g⟩ ⟨qz85.h, undef, undef, undef, undef, undef, undef, undef⟩ _ ((HS.front 1 rfl).front 1 rfl) (Eq.symm (by unfold hdB; rw [decide_eq_true q0, decide_eq_false hk]; simp))
    · skip
      refine c_region (fun ops87 hops86 => ?_)
      refine p_run _ (x_field (j := 0) _ _ rfl rfl Try.underlying33 rfl (by rfl) rfl) rfl ?_
      refine p_run _ (x_load (.int .i64 m.k) rfl rfl (bkCell (HS.get (.tail _ (.head _))) 0 _ rfl) (by rfl)) rfl ?_
      refine p_run _ (x_field (j := 0) _ _ rfl rfl Try.underlying33 rfl (by rfl) rfl) rfl ?_
      refine p_run _ (x_load (.int .i64 n.k) rfl rfl (bkCell (HS.get (.head _)) 0 _ rfl) (by rfl)) rfl ?_
      refine p_run _ (x_cmp (k := .i64) (m := m.k) (n := n.k) .eql true rfl rfl rfl (eql_yes q0) rfl) rfl ?_
      refine p_run _ (x_move (.bool true) rfl rfl) rfl ?_
      refine p_on rfl (by rw [hops86]; rfl) ?_
      refine p_run (l' := (mgV m A c B d :: mgV n A2 c2 B2 d2 :: .pointer (some ⟨g5, 0, none⟩) :: .pointer (some ⟨g8, 0, none⟩) :: .bool false :: undef :: undef :: .pointer (some ⟨g5, 0, none⟩) :: .int .i64 m.k :: .pointer (some ⟨g8, 0, none⟩) :: .int .i64 n.k :: .bool true :: .bool true :: .pointer (some ⟨g5, 1, none⟩) :: U32f7 (U16f7 (U8f7 (U4f7 (undef :: undef :: undef :: [])))))) _ (x_field (j := 1) _ _ rfl rfl Try.underlying33 rfl (by rfl) rfl) rfl ?_
      refine p_on rfl (by rw [hops86]; rfl) ?_
      refine p_run _ (x_load (.int .u32 m.e) rfl rfl (bkCell (HS.get (.tail _ (.head _))) 1 _ rfl) (by rfl)) rfl ?_
      refine p_on rfl (by rw [hops86]; rfl) ?_
      refine p_run _ (x_field (j := 1) _ _ rfl rfl Try.underlying33 rfl (by rfl) rfl) rfl ?_
      refine p_on rfl (by rw [hops86]; rfl) ?_
      refine p_run _ (x_load (.int .u32 n.e) rfl rfl (bkCell (HS.get (.head _)) 1 _ rfl) (by rfl)) rfl ?_
      refine p_on rfl (by rw [hops86]; rfl) ?_
      refine p_run _ (x_cmp (k := .u32) (m := m.e) (n := n.e) .eql true rfl rfl rfl (eql_yes q1) rfl) rfl ?_
      refine p_run _ (x_pick true (.bool true) (.bool false) (.bool true) rfl rfl rfl rfl rfl) rfl ?_
      refine p_run _ (x_move (.bool true) rfl rfl) rfl ?_
      refine p_on rfl (by rw [hops86]; rfl) ?_
      refine p_run (l' := (mgV m A c B d :: mgV n A2 c2 B2 d2 :: .pointer (some ⟨g5, 0, none⟩) :: .pointer (some ⟨g8, 0, none⟩) :: .bool false :: undef :: undef :: .pointer (some ⟨g5, 0, none⟩) :: .int .i64 m.k :: .pointer (some ⟨g8, 0, none⟩) :: .int .i64 n.k :: .bool true :: .bool true :: .pointer (some ⟨g5, 1, none⟩) :: .int .u32 m.e :: .pointer (some ⟨g8, 1, none⟩) :: .int .u32 n.e :: .bool true :: .bool true :: .bool true :: .pointer (some ⟨g5, 2, none⟩) :: U32f7 (U16f7 (U8f7 ([]))))) _ (x_field (j := 2) _ _ rfl rfl Try.underlying33 rfl (by rfl) rfl) rfl ?_
      refine p_on rfl (by rw [hops86]; rfl) ?_
      refine p_run _ (x_load (.int .u64 m.s) rfl rfl (bkCell (HS.get (.tail _ (.head _))) 2 _ rfl) (by rfl)) rfl ?_
      refine p_on rfl (by rw [hops86]; rfl) ?_
      refine p_run _ (x_field (j := 2) _ _ rfl rfl Try.underlying33 rfl (by rfl) rfl) rfl ?_
      refine p_on rfl (by rw [hops86]; rfl) ?_
      refine p_run _ (x_load (.int .u64 n.s) rfl rfl (bkCell (HS.get (.head _)) 2 _ rfl) (by rfl)) rfl ?_
      refine p_on rfl (by rw [hops86]; rfl) ?_
      refine p_run _ (x_cmp (k := .u64) (m := m.s) (n := n.s) .eql false rfl rfl rfl (eql_no hk) rfl) rfl ?_
      refine p_run _ (x_pick true (.bool false) (.bool false) (.bool false) rfl rfl rfl rfl rfl) rfl ?_
      refine p_run _ (x_move (.bool false) rfl rfl) rfl ?_
      refine p_off (l' := (mgV m A c B d :: mgV n A2 c2 B2 d2 :: .pointer (some ⟨g5, 0, none⟩) :: .pointer (some ⟨g8, 0, none⟩) :: .bool false :: undef :: undef :: .pointer (some ⟨g5, 0, none⟩) :: .int .i64 m.k :: .pointer (some ⟨g8, 0, none⟩) :: .int .i64 n.k :: .bool true :: .bool true :: .pointer (some ⟨g5, 1, none⟩) :: .int .u32 m.e :: .pointer (some ⟨g8, 1, none⟩) :: .int .u32 n.e :: .bool true :: .bool true :: .bool true :: .pointer (some ⟨g5, 2, none⟩) :: .int .u64 m.s :: .pointer (some ⟨g8, 2, none⟩) :: .int .u64 n.s :: .bool false :: .bool false :: .bool false :: U32f7 (U16f7 (undef :: undef :: [])))) (by rw [hops86]; rfl) rfl ?_
      refine p_off (by rw [hops86]; rfl) rfl ?_
      refine p_off (by rw [hops86]; rfl) rfl ?_
      refine p_off (by rw [hops86]; rfl) rfl ?_
      refine p_off (by rw [hops86]; rfl) rfl ?_
      refine p_run _ (x_pick false (undef) (.bool false) (.bool false) rfl rfl rfl rfl rfl) rfl ?_
      refine p_run _ (x_move (.bool false) rfl rfl) rfl ?_
      refine p_off (l' := (mgV m A c B d :: mgV n A2 c2 B2 d2 :: .pointer (some ⟨g5, 0, none⟩) :: .pointer (some ⟨g8, 0, none⟩) :: .bool false :: undef :: undef :: .pointer (some ⟨g5, 0, none⟩) :: .int .i64 m.k :: .pointer (some ⟨g8, 0, none⟩) :: .int .i64 n.k :: .bool true :: .bool true :: .pointer (some ⟨g5, 1, none⟩) :: .int .u32 m.e :: .pointer (some ⟨g8, 1, none⟩) :: .int .u32 n.e :: .bool true :: .bool true :: .bool true :: .pointer (some ⟨g5, 2, none⟩) :: .int .u64 m.s :: .pointer (some ⟨g8, 2, none⟩) :: .int .u64 n.s :: .bool false :: .bool false :: .bool false :: U4f7 (undef :: .bool false :: .bool false :: U32f7 (U8f7 (undef :: undef :: undef :: []))))) (by rw [hops86]; rfl) rfl ?_
      refine p_off (by rw [hops86]; rfl) rfl ?_
      refine p_off (by rw [hops86]; rfl) rfl ?_
      refine p_off (by rw [hops86]; rfl) rfl ?_
      refine p_off (by rw [hops86]; rfl) rfl ?_
      refine p_run _ (x_pick false (undef) (.bool false) (.bool false) rfl rfl rfl rfl rfl) rfl ?_
      refine p_run _ (x_assign (.bool false) rfl rfl) rfl ?_
      clear hops86
      refine wpList_nil ?_
      obtain ⟨qz88, hqz88⟩ : ∃ q_ : V8, q_ = ⟨.int .i64 m.k, .pointer (some ⟨g8, 0, none⟩), .int .i64 n.k, .bool true, .bool true, .pointer (some ⟨g5, 1, none⟩), .int .u32 m.e, .pointer (some ⟨g8, 1, none⟩)⟩ := ⟨_, rfl⟩
      obtain ⟨qz89, hqz89⟩ : ∃ q_ : V8, q_ = ⟨.int .u32 n.e, .bool true, .bool true, .bool true, .pointer (some ⟨g5, 2, none⟩), .int .u64 m.s, .pointer (some ⟨g8, 2, none⟩), .int .u64 n.s⟩ := ⟨_, rfl⟩
      obtain ⟨qz90, hqz90⟩ : ∃ q_ : V8, q_ = ⟨.bool false, .bool false, .bool false, undef, undef, undef, undef, undef⟩ := ⟨_, rfl⟩
      obtain ⟨qz91, hqz91⟩ : ∃ q_ : V8, q_ = ⟨.bool false, .bool false, undef, undef, undef, undef, undef, .bool false⟩ := ⟨_, rfl⟩
      refine fr_at (l' := (mgV m A c B d :: mgV n A2 c2 B2 d2 :: .pointer (some ⟨g5, 0, none⟩) :: .pointer (some ⟨g8, 0, none⟩) :: .bool false :: .bool false :: undef :: .pointer (some ⟨g5, 0, none⟩) :: V8.l qz88 (V8.l qz89 (V8.l qz90 (V8.l qz91 (U32f7 (U4f7 (undef :: [])))))))) (by subst hqz88 hqz89 hqz90 hqz91; rfl) ?_
      exact hT13 false ⟨.pointer (some ⟨g5, 0, none⟩), qz88.a, qz88.b, qz88.c, qz88.d, qz88.e, qz88.f, qz88.g⟩ ⟨qz88.h, qz89.a, qz89.b, qz89.c, qz89.d, qz89.e, qz89.f, qz89.g⟩ ⟨qz89.h, qz90.a, qz90.b, qz90.c, qz90.d, qz90.e, qz90.f, qz90.g⟩ ⟨qz90.h, qz91.a, qz91.b, qz91.c, qz91.d, qz91.e, qz91.f, qz91.g⟩ ⟨qz91.h, undef, undef, undef, undef, undef, undef, undef⟩ _ ((HS.front 1 rfl).front 1 rfl) (Eq.symm (by unfold hdB; rw [decide_eq_true q0, decide_eq_true q1, decide_eq_false hk]; simp))
    · skip
      refine c_region (fun ops93 hops92 => ?_)
      refine p_run _ (x_field (j := 0) _ _ rfl rfl Try.underlying33 rfl (by rfl) rfl) rfl ?_
      refine p_run _ (x_load (.int .i64 m.k) rfl rfl (bkCell (HS.get (.tail _ (.head _))) 0 _ rfl) (by rfl)) rfl ?_
      refine p_run _ (x_field (j := 0) _ _ rfl rfl Try.underlying33 rfl (by rfl) rfl) rfl ?_
      refine p_run _ (x_load (.int .i64 n.k) rfl rfl (bkCell (HS.get (.head _)) 0 _ rfl) (by rfl)) rfl ?_
      refine p_run _ (x_cmp (k := .i64) (m := m.k) (n := n.k) .eql true rfl rfl rfl (eql_yes q0) rfl) rfl ?_
      refine p_run _ (x_move (.bool true) rfl rfl) rfl ?_
      refine p_on rfl (by rw [hops92]; rfl) ?_
      refine p_run (l' := (mgV m A c B d :: mgV n A2 c2 B2 d2 :: .pointer (some ⟨g5, 0, none⟩) :: .pointer (some ⟨g8, 0, none⟩) :: .bool false :: undef :: undef :: .pointer (some ⟨g5, 0, none⟩) :: .int .i64 m.k :: .pointer (some ⟨g8, 0, none⟩) :: .int .i64 n.k :: .bool true :: .bool true :: .pointer (some ⟨g5, 1, none⟩) :: U32f7 (U16f7 (U8f7 (U4f7 (undef :: undef :: undef :: [])))))) _ (x_field (j := 1) _ _ rfl rfl Try.underlying33 rfl (by rfl) rfl) rfl ?_
      refine p_on rfl (by rw [hops92]; rfl) ?_
      refine p_run _ (x_load (.int .u32 m.e) rfl rfl (bkCell (HS.get (.tail _ (.head _))) 1 _ rfl) (by rfl)) rfl ?_
      refine p_on rfl (by rw [hops92]; rfl) ?_
      refine p_run _ (x_field (j := 1) _ _ rfl rfl Try.underlying33 rfl (by rfl) rfl) rfl ?_
      refine p_on rfl (by rw [hops92]; rfl) ?_
      refine p_run _ (x_load (.int .u32 n.e) rfl rfl (bkCell (HS.get (.head _)) 1 _ rfl) (by rfl)) rfl ?_
      refine p_on rfl (by rw [hops92]; rfl) ?_
      refine p_run _ (x_cmp (k := .u32) (m := m.e) (n := n.e) .eql true rfl rfl rfl (eql_yes q1) rfl) rfl ?_
      refine p_run _ (x_pick true (.bool true) (.bool false) (.bool true) rfl rfl rfl rfl rfl) rfl ?_
      refine p_run _ (x_move (.bool true) rfl rfl) rfl ?_
      refine p_on rfl (by rw [hops92]; rfl) ?_
      refine p_run (l' := (mgV m A c B d :: mgV n A2 c2 B2 d2 :: .pointer (some ⟨g5, 0, none⟩) :: .pointer (some ⟨g8, 0, none⟩) :: .bool false :: undef :: undef :: .pointer (some ⟨g5, 0, none⟩) :: .int .i64 m.k :: .pointer (some ⟨g8, 0, none⟩) :: .int .i64 n.k :: .bool true :: .bool true :: .pointer (some ⟨g5, 1, none⟩) :: .int .u32 m.e :: .pointer (some ⟨g8, 1, none⟩) :: .int .u32 n.e :: .bool true :: .bool true :: .bool true :: .pointer (some ⟨g5, 2, none⟩) :: U32f7 (U16f7 (U8f7 ([]))))) _ (x_field (j := 2) _ _ rfl rfl Try.underlying33 rfl (by rfl) rfl) rfl ?_
      refine p_on rfl (by rw [hops92]; rfl) ?_
      refine p_run _ (x_load (.int .u64 m.s) rfl rfl (bkCell (HS.get (.tail _ (.head _))) 2 _ rfl) (by rfl)) rfl ?_
      refine p_on rfl (by rw [hops92]; rfl) ?_
      refine p_run _ (x_field (j := 2) _ _ rfl rfl Try.underlying33 rfl (by rfl) rfl) rfl ?_
      refine p_on rfl (by rw [hops92]; rfl) ?_
      refine p_run _ (x_load (.int .u64 n.s) rfl rfl (bkCell (HS.get (.head _)) 2 _ rfl) (by rfl)) rfl ?_
      refine p_on rfl (by rw [hops92]; rfl) ?_
      refine p_run _ (x_cmp (k := .u64) (m := m.s) (n := n.s) .eql true rfl rfl rfl (eql_yes q2) rfl) rfl ?_
      refine p_run _ (x_pick true (.bool true) (.bool false) (.bool true) rfl rfl rfl rfl rfl) rfl ?_
      refine p_run _ (x_move (.bool true) rfl rfl) rfl ?_
      refine p_on rfl (by rw [hops92]; rfl) ?_
      refine p_run (l' := (mgV m A c B d :: mgV n A2 c2 B2 d2 :: .pointer (some ⟨g5, 0, none⟩) :: .pointer (some ⟨g8, 0, none⟩) :: .bool false :: undef :: undef :: .pointer (some ⟨g5, 0, none⟩) :: .int .i64 m.k :: .pointer (some ⟨g8, 0, none⟩) :: .int .i64 n.k :: .bool true :: .bool true :: .pointer (some ⟨g5, 1, none⟩) :: .int .u32 m.e :: .pointer (some ⟨g8, 1, none⟩) :: .int .u32 n.e :: .bool true :: .bool true :: .bool true :: .pointer (some ⟨g5, 2, none⟩) :: .int .u64 m.s :: .pointer (some ⟨g8, 2, none⟩) :: .int .u64 n.s :: .bool true :: .bool true :: .bool true :: .pointer (some ⟨g5, 3, none⟩) :: U32f7 (U16f7 (undef :: [])))) _ (x_field (j := 3) _ _ rfl rfl Try.underlying33 rfl (by rfl) rfl) rfl ?_
      refine p_on rfl (by rw [hops92]; rfl) ?_
      refine p_run _ (x_loads [.int .u32 m.te, .int .u32 m.ts] 2 rfl rfl (bkCells (HS.get (.tail _ (.head _))) 3 _ rfl) (by rfl) (by kernel_rfl) rfl) rfl ?_
      refine p_on rfl (by rw [hops92]; rfl) ?_
      refine p_run _ (x_field (j := 3) _ _ rfl rfl Try.underlying33 rfl (by rfl) rfl) rfl ?_
      refine p_on rfl (by rw [hops92]; rfl) ?_
      refine p_run _ (x_loads [.int .u32 n.te, .int .u32 n.ts] 2 rfl rfl (bkCells (HS.get (.head _)) 3 _ rfl) (by rfl) (by kernel_rfl) rfl) rfl ?_
      refine p_on rfl (by rw [hops92]; rfl) ?_
      refine p_run _ (x_eq .eql (.agg ([.int .u32 m.te, .int .u32 m.ts] : List Value).toArray) (.agg ([.int .u32 n.te, .int .u32 n.ts] : List Value).toArray) (decide (m.te = n.te ∧ m.ts = n.ts)) false rfl rfl rfl (equal_lb _ _ _ _ _) (by rw [decide_eq_false hk]; rfl) rfl (guard_agg (by kernel_rfl)) (guard_agg (by kernel_rfl))) rfl ?_
      refine p_run _ (x_pick true (.bool false) (.bool false) (.bool false) rfl rfl rfl rfl rfl) rfl ?_
      refine p_run _ (x_move (.bool false) rfl rfl) rfl ?_
      refine p_off (l' := (mgV m A c B d :: mgV n A2 c2 B2 d2 :: .pointer (some ⟨g5, 0, none⟩) :: .pointer (some ⟨g8, 0, none⟩) :: .bool false :: undef :: undef :: .pointer (some ⟨g5, 0, none⟩) :: .int .i64 m.k :: .pointer (some ⟨g8, 0, none⟩) :: .int .i64 n.k :: .bool true :: .bool true :: .pointer (some ⟨g5, 1, none⟩) :: .int .u32 m.e :: .pointer (some ⟨g8, 1, none⟩) :: .int .u32 n.e :: .bool true :: .bool true :: .bool true :: .pointer (some ⟨g5, 2, none⟩) :: .int .u64 m.s :: .pointer (some ⟨g8, 2, none⟩) :: .int .u64 n.s :: .bool true :: .bool true :: .bool true :: .pointer (some ⟨g5, 3, none⟩) :: .agg ([.int .u32 m.te, .int .u32 m.ts] : List Value).toArray :: .pointer (some ⟨g8, 3, none⟩) :: .agg ([.int .u32 n.te, .int .u32 n.ts] : List Value).toArray :: .bool false :: .bool false :: .bool false :: U32f7 (U8f7 (undef :: undef :: undef :: [])))) (by rw [hops92]; rfl) rfl ?_
      refine p_off (by rw [hops92]; rfl) rfl ?_
      refine p_off (by rw [hops92]; rfl) rfl ?_
      refine p_off (by rw [hops92]; rfl) rfl ?_
      refine p_off (by rw [hops92]; rfl) rfl ?_
      refine p_run _ (x_pick false (undef) (.bool false) (.bool false) rfl rfl rfl rfl rfl) rfl ?_
      refine p_run _ (x_assign (.bool false) rfl rfl) rfl ?_
      clear hops92
      refine wpList_nil ?_
      obtain ⟨qz94, hqz94⟩ : ∃ q_ : V8, q_ = ⟨.int .i64 m.k, .pointer (some ⟨g8, 0, none⟩), .int .i64 n.k, .bool true, .bool true, .pointer (some ⟨g5, 1, none⟩), .int .u32 m.e, .pointer (some ⟨g8, 1, none⟩)⟩ := ⟨_, rfl⟩
      obtain ⟨qz95, hqz95⟩ : ∃ q_ : V8, q_ = ⟨.int .u32 n.e, .bool true, .bool true, .bool true, .pointer (some ⟨g5, 2, none⟩), .int .u64 m.s, .pointer (some ⟨g8, 2, none⟩), .int .u64 n.s⟩ := ⟨_, rfl⟩
      obtain ⟨qz96, hqz96⟩ : ∃ q_ : V8, q_ = ⟨.bool true, .bool true, .bool true, .pointer (some ⟨g5, 3, none⟩), .agg ([.int .u32 m.te, .int .u32 m.ts] : List Value).toArray, .pointer (some ⟨g8, 3, none⟩), .agg ([.int .u32 n.te, .int .u32 n.ts] : List Value).toArray, .bool false⟩ := ⟨_, rfl⟩
      obtain ⟨qz97, hqz97⟩ : ∃ q_ : V8, q_ = ⟨.bool false, .bool false, undef, undef, undef, undef, undef, .bool false⟩ := ⟨_, rfl⟩
      refine fr_at (l' := (mgV m A c B d :: mgV n A2 c2 B2 d2 :: .pointer (some ⟨g5, 0, none⟩) :: .pointer (some ⟨g8, 0, none⟩) :: .bool false :: .bool false :: undef :: .pointer (some ⟨g5, 0, none⟩) :: V8.l qz94 (V8.l qz95 (V8.l qz96 (V8.l qz97 (U32f7 (U4f7 (undef :: [])))))))) (by subst hqz94 hqz95 hqz96 hqz97; rfl) ?_
      exact hT13 false ⟨.pointer (some ⟨g5, 0, none⟩), qz94.a, qz94.b, qz94.c, qz94.d, qz94.e, qz94.f, qz94.g⟩ ⟨qz94.h, qz95.a, qz95.b, qz95.c, qz95.d, qz95.e, qz95.f, qz95.g⟩ ⟨qz95.h, qz96.a, qz96.b, qz96.c, qz96.d, qz96.e, qz96.f, qz96.g⟩ ⟨qz96.h, qz97.a, qz97.b, qz97.c, qz97.d, qz97.e, qz97.f, qz97.g⟩ ⟨qz97.h, undef, undef, undef, undef, undef, undef, undef⟩ _ ((HS.front 1 rfl).front 1 rfl) (Eq.symm (by unfold hdB; rw [decide_eq_true q0, decide_eq_true q1, decide_eq_true q2, decide_eq_false hk]; simp))
    · skip
      refine c_region (fun ops99 hops98 => ?_)
      refine p_run _ (x_field (j := 0) _ _ rfl rfl Try.underlying33 rfl (by rfl) rfl) rfl ?_
      refine p_run _ (x_load (.int .i64 m.k) rfl rfl (bkCell (HS.get (.tail _ (.head _))) 0 _ rfl) (by rfl)) rfl ?_
      refine p_run _ (x_field (j := 0) _ _ rfl rfl Try.underlying33 rfl (by rfl) rfl) rfl ?_
      refine p_run _ (x_load (.int .i64 n.k) rfl rfl (bkCell (HS.get (.head _)) 0 _ rfl) (by rfl)) rfl ?_
      refine p_run _ (x_cmp (k := .i64) (m := m.k) (n := n.k) .eql true rfl rfl rfl (eql_yes q0) rfl) rfl ?_
      refine p_run _ (x_move (.bool true) rfl rfl) rfl ?_
      refine p_on rfl (by rw [hops98]; rfl) ?_
      refine p_run (l' := (mgV m A c B d :: mgV n A2 c2 B2 d2 :: .pointer (some ⟨g5, 0, none⟩) :: .pointer (some ⟨g8, 0, none⟩) :: .bool false :: undef :: undef :: .pointer (some ⟨g5, 0, none⟩) :: .int .i64 m.k :: .pointer (some ⟨g8, 0, none⟩) :: .int .i64 n.k :: .bool true :: .bool true :: .pointer (some ⟨g5, 1, none⟩) :: U32f7 (U16f7 (U8f7 (U4f7 (undef :: undef :: undef :: [])))))) _ (x_field (j := 1) _ _ rfl rfl Try.underlying33 rfl (by rfl) rfl) rfl ?_
      refine p_on rfl (by rw [hops98]; rfl) ?_
      refine p_run _ (x_load (.int .u32 m.e) rfl rfl (bkCell (HS.get (.tail _ (.head _))) 1 _ rfl) (by rfl)) rfl ?_
      refine p_on rfl (by rw [hops98]; rfl) ?_
      refine p_run _ (x_field (j := 1) _ _ rfl rfl Try.underlying33 rfl (by rfl) rfl) rfl ?_
      refine p_on rfl (by rw [hops98]; rfl) ?_
      refine p_run _ (x_load (.int .u32 n.e) rfl rfl (bkCell (HS.get (.head _)) 1 _ rfl) (by rfl)) rfl ?_
      refine p_on rfl (by rw [hops98]; rfl) ?_
      refine p_run _ (x_cmp (k := .u32) (m := m.e) (n := n.e) .eql true rfl rfl rfl (eql_yes q1) rfl) rfl ?_
      refine p_run _ (x_pick true (.bool true) (.bool false) (.bool true) rfl rfl rfl rfl rfl) rfl ?_
      refine p_run _ (x_move (.bool true) rfl rfl) rfl ?_
      refine p_on rfl (by rw [hops98]; rfl) ?_
      refine p_run (l' := (mgV m A c B d :: mgV n A2 c2 B2 d2 :: .pointer (some ⟨g5, 0, none⟩) :: .pointer (some ⟨g8, 0, none⟩) :: .bool false :: undef :: undef :: .pointer (some ⟨g5, 0, none⟩) :: .int .i64 m.k :: .pointer (some ⟨g8, 0, none⟩) :: .int .i64 n.k :: .bool true :: .bool true :: .pointer (some ⟨g5, 1, none⟩) :: .int .u32 m.e :: .pointer (some ⟨g8, 1, none⟩) :: .int .u32 n.e :: .bool true :: .bool true :: .bool true :: .pointer (some ⟨g5, 2, none⟩) :: U32f7 (U16f7 (U8f7 ([]))))) _ (x_field (j := 2) _ _ rfl rfl Try.underlying33 rfl (by rfl) rfl) rfl ?_
      refine p_on rfl (by rw [hops98]; rfl) ?_
      refine p_run _ (x_load (.int .u64 m.s) rfl rfl (bkCell (HS.get (.tail _ (.head _))) 2 _ rfl) (by rfl)) rfl ?_
      refine p_on rfl (by rw [hops98]; rfl) ?_
      refine p_run _ (x_field (j := 2) _ _ rfl rfl Try.underlying33 rfl (by rfl) rfl) rfl ?_
      refine p_on rfl (by rw [hops98]; rfl) ?_
      refine p_run _ (x_load (.int .u64 n.s) rfl rfl (bkCell (HS.get (.head _)) 2 _ rfl) (by rfl)) rfl ?_
      refine p_on rfl (by rw [hops98]; rfl) ?_
      refine p_run _ (x_cmp (k := .u64) (m := m.s) (n := n.s) .eql true rfl rfl rfl (eql_yes q2) rfl) rfl ?_
      refine p_run _ (x_pick true (.bool true) (.bool false) (.bool true) rfl rfl rfl rfl rfl) rfl ?_
      refine p_run _ (x_move (.bool true) rfl rfl) rfl ?_
      refine p_on rfl (by rw [hops98]; rfl) ?_
      refine p_run (l' := (mgV m A c B d :: mgV n A2 c2 B2 d2 :: .pointer (some ⟨g5, 0, none⟩) :: .pointer (some ⟨g8, 0, none⟩) :: .bool false :: undef :: undef :: .pointer (some ⟨g5, 0, none⟩) :: .int .i64 m.k :: .pointer (some ⟨g8, 0, none⟩) :: .int .i64 n.k :: .bool true :: .bool true :: .pointer (some ⟨g5, 1, none⟩) :: .int .u32 m.e :: .pointer (some ⟨g8, 1, none⟩) :: .int .u32 n.e :: .bool true :: .bool true :: .bool true :: .pointer (some ⟨g5, 2, none⟩) :: .int .u64 m.s :: .pointer (some ⟨g8, 2, none⟩) :: .int .u64 n.s :: .bool true :: .bool true :: .bool true :: .pointer (some ⟨g5, 3, none⟩) :: U32f7 (U16f7 (undef :: [])))) _ (x_field (j := 3) _ _ rfl rfl Try.underlying33 rfl (by rfl) rfl) rfl ?_
      refine p_on rfl (by rw [hops98]; rfl) ?_
      refine p_run _ (x_loads [.int .u32 m.te, .int .u32 m.ts] 2 rfl rfl (bkCells (HS.get (.tail _ (.head _))) 3 _ rfl) (by rfl) (by kernel_rfl) rfl) rfl ?_
      refine p_on rfl (by rw [hops98]; rfl) ?_
      refine p_run _ (x_field (j := 3) _ _ rfl rfl Try.underlying33 rfl (by rfl) rfl) rfl ?_
      refine p_on rfl (by rw [hops98]; rfl) ?_
      refine p_run _ (x_loads [.int .u32 n.te, .int .u32 n.ts] 2 rfl rfl (bkCells (HS.get (.head _)) 3 _ rfl) (by rfl) (by kernel_rfl) rfl) rfl ?_
      refine p_on rfl (by rw [hops98]; rfl) ?_
      refine p_run _ (x_eq .eql (.agg ([.int .u32 m.te, .int .u32 m.ts] : List Value).toArray) (.agg ([.int .u32 n.te, .int .u32 n.ts] : List Value).toArray) (decide (m.te = n.te ∧ m.ts = n.ts)) true rfl rfl rfl (equal_lb _ _ _ _ _) (by rw [decide_eq_true q3]; rfl) rfl (guard_agg (by kernel_rfl)) (guard_agg (by kernel_rfl))) rfl ?_
      refine p_run _ (x_pick true (.bool true) (.bool false) (.bool true) rfl rfl rfl rfl rfl) rfl ?_
      refine p_run _ (x_move (.bool true) rfl rfl) rfl ?_
      refine p_on rfl (by rw [hops98]; rfl) ?_
      refine p_run (l' := (mgV m A c B d :: mgV n A2 c2 B2 d2 :: .pointer (some ⟨g5, 0, none⟩) :: .pointer (some ⟨g8, 0, none⟩) :: .bool false :: undef :: undef :: .pointer (some ⟨g5, 0, none⟩) :: .int .i64 m.k :: .pointer (some ⟨g8, 0, none⟩) :: .int .i64 n.k :: .bool true :: .bool true :: .pointer (some ⟨g5, 1, none⟩) :: .int .u32 m.e :: .pointer (some ⟨g8, 1, none⟩) :: .int .u32 n.e :: .bool true :: .bool true :: .bool true :: .pointer (some ⟨g5, 2, none⟩) :: .int .u64 m.s :: .pointer (some ⟨g8, 2, none⟩) :: .int .u64 n.s :: .bool true :: .bool true :: .bool true :: .pointer (some ⟨g5, 3, none⟩) :: .agg ([.int .u32 m.te, .int .u32 m.ts] : List Value).toArray :: .pointer (some ⟨g8, 3, none⟩) :: .agg ([.int .u32 n.te, .int .u32 n.ts] : List Value).toArray :: .bool true :: .bool true :: .bool true :: .pointer (some ⟨g5, 5, none⟩) :: U32f7 (U8f7 (undef :: undef :: [])))) _ (x_field (j := 5) _ _ rfl rfl Try.underlying33 rfl (by rfl) rfl) rfl ?_
      refine p_on rfl (by rw [hops98]; rfl) ?_
      refine p_run _ (x_loads [.int .u32 m.be, .int .u32 m.bs] 2 rfl rfl (bkCells (HS.get (.tail _ (.head _))) 5 _ rfl) (by rfl) (by kernel_rfl) rfl) rfl ?_
      refine p_on rfl (by rw [hops98]; rfl) ?_
      refine p_run _ (x_field (j := 5) _ _ rfl rfl Try.underlying33 rfl (by rfl) rfl) rfl ?_
      refine p_on rfl (by rw [hops98]; rfl) ?_
      refine p_run _ (x_loads [.int .u32 n.be, .int .u32 n.bs] 2 rfl rfl (bkCells (HS.get (.head _)) 5 _ rfl) (by rfl) (by kernel_rfl) rfl) rfl ?_
      refine p_on rfl (by rw [hops98]; rfl) ?_
      refine p_run _ (x_eq .eql (.agg ([.int .u32 m.be, .int .u32 m.bs] : List Value).toArray) (.agg ([.int .u32 n.be, .int .u32 n.bs] : List Value).toArray) (decide (m.be = n.be ∧ m.bs = n.bs)) false rfl rfl rfl (equal_lb _ _ _ _ _) (by rw [decide_eq_false hk]; rfl) rfl (guard_agg (by kernel_rfl)) (guard_agg (by kernel_rfl))) rfl ?_
      refine p_run _ (x_pick true (.bool false) (.bool false) (.bool false) rfl rfl rfl rfl rfl) rfl ?_
      refine p_run _ (x_assign (.bool false) rfl rfl) rfl ?_
      clear hops98
      refine wpList_nil ?_
      obtain ⟨qz100, hqz100⟩ : ∃ q_ : V8, q_ = ⟨.int .i64 m.k, .pointer (some ⟨g8, 0, none⟩), .int .i64 n.k, .bool true, .bool true, .pointer (some ⟨g5, 1, none⟩), .int .u32 m.e, .pointer (some ⟨g8, 1, none⟩)⟩ := ⟨_, rfl⟩
      obtain ⟨qz101, hqz101⟩ : ∃ q_ : V8, q_ = ⟨.int .u32 n.e, .bool true, .bool true, .bool true, .pointer (some ⟨g5, 2, none⟩), .int .u64 m.s, .pointer (some ⟨g8, 2, none⟩), .int .u64 n.s⟩ := ⟨_, rfl⟩
      obtain ⟨qz102, hqz102⟩ : ∃ q_ : V8, q_ = ⟨.bool true, .bool true, .bool true, .pointer (some ⟨g5, 3, none⟩), .agg ([.int .u32 m.te, .int .u32 m.ts] : List Value).toArray, .pointer (some ⟨g8, 3, none⟩), .agg ([.int .u32 n.te, .int .u32 n.ts] : List Value).toArray, .bool true⟩ := ⟨_, rfl⟩
      obtain ⟨qz103, hqz103⟩ : ∃ q_ : V8, q_ = ⟨.bool true, .bool true, .pointer (some ⟨g5, 5, none⟩), .agg ([.int .u32 m.be, .int .u32 m.bs] : List Value).toArray, .pointer (some ⟨g8, 5, none⟩), .agg ([.int .u32 n.be, .int .u32 n.bs] : List Value).toArray, .bool false, .bool false⟩ := ⟨_, rfl⟩
      refine fr_at (l' := (mgV m A c B d :: mgV n A2 c2 B2 d2 :: .pointer (some ⟨g5, 0, none⟩) :: .pointer (some ⟨g8, 0, none⟩) :: .bool false :: .bool false :: undef :: .pointer (some ⟨g5, 0, none⟩) :: V8.l qz100 (V8.l qz101 (V8.l qz102 (V8.l qz103 (U32f7 (U4f7 (undef :: [])))))))) (by subst hqz100 hqz101 hqz102 hqz103; rfl) ?_
      exact hT13 false ⟨.pointer (some ⟨g5, 0, none⟩), qz100.a, qz100.b, qz100.c, qz100.d, qz100.e, qz100.f, qz100.g⟩ ⟨qz100.h, qz101.a, qz101.b, qz101.c, qz101.d, qz101.e, qz101.f, qz101.g⟩ ⟨qz101.h, qz102.a, qz102.b, qz102.c, qz102.d, qz102.e, qz102.f, qz102.g⟩ ⟨qz102.h, qz103.a, qz103.b, qz103.c, qz103.d, qz103.e, qz103.f, qz103.g⟩ ⟨qz103.h, undef, undef, undef, undef, undef, undef, undef⟩ _ ((HS.front 1 rfl).front 1 rfl) (Eq.symm (by unfold hdB; rw [decide_eq_true q0, decide_eq_true q1, decide_eq_true q2, decide_eq_true q3, decide_eq_false hk]; simp))
    · skip
      refine c_region (fun ops105 hops104 => ?_)
      refine p_run _ (x_field (j := 0) _ _ rfl rfl Try.underlying33 rfl (by rfl) rfl) rfl ?_
      refine p_run _ (x_load (.int .i64 m.k) rfl rfl (bkCell (HS.get (.tail _ (.head _))) 0 _ rfl) (by rfl)) rfl ?_
      refine p_run _ (x_field (j := 0) _ _ rfl rfl Try.underlying33 rfl (by rfl) rfl) rfl ?_
      refine p_run _ (x_load (.int .i64 n.k) rfl rfl (bkCell (HS.get (.head _)) 0 _ rfl) (by rfl)) rfl ?_
      refine p_run _ (x_cmp (k := .i64) (m := m.k) (n := n.k) .eql true rfl rfl rfl (eql_yes q0) rfl) rfl ?_
      refine p_run _ (x_move (.bool true) rfl rfl) rfl ?_
      refine p_on rfl (by rw [hops104]; rfl) ?_
      refine p_run (l' := (mgV m A c B d :: mgV n A2 c2 B2 d2 :: .pointer (some ⟨g5, 0, none⟩) :: .pointer (some ⟨g8, 0, none⟩) :: .bool false :: undef :: undef :: .pointer (some ⟨g5, 0, none⟩) :: .int .i64 m.k :: .pointer (some ⟨g8, 0, none⟩) :: .int .i64 n.k :: .bool true :: .bool true :: .pointer (some ⟨g5, 1, none⟩) :: U32f7 (U16f7 (U8f7 (U4f7 (undef :: undef :: undef :: [])))))) _ (x_field (j := 1) _ _ rfl rfl Try.underlying33 rfl (by rfl) rfl) rfl ?_
      refine p_on rfl (by rw [hops104]; rfl) ?_
      refine p_run _ (x_load (.int .u32 m.e) rfl rfl (bkCell (HS.get (.tail _ (.head _))) 1 _ rfl) (by rfl)) rfl ?_
      refine p_on rfl (by rw [hops104]; rfl) ?_
      refine p_run _ (x_field (j := 1) _ _ rfl rfl Try.underlying33 rfl (by rfl) rfl) rfl ?_
      refine p_on rfl (by rw [hops104]; rfl) ?_
      refine p_run _ (x_load (.int .u32 n.e) rfl rfl (bkCell (HS.get (.head _)) 1 _ rfl) (by rfl)) rfl ?_
      refine p_on rfl (by rw [hops104]; rfl) ?_
      refine p_run _ (x_cmp (k := .u32) (m := m.e) (n := n.e) .eql true rfl rfl rfl (eql_yes q1) rfl) rfl ?_
      refine p_run _ (x_pick true (.bool true) (.bool false) (.bool true) rfl rfl rfl rfl rfl) rfl ?_
      refine p_run _ (x_move (.bool true) rfl rfl) rfl ?_
      refine p_on rfl (by rw [hops104]; rfl) ?_
      refine p_run (l' := (mgV m A c B d :: mgV n A2 c2 B2 d2 :: .pointer (some ⟨g5, 0, none⟩) :: .pointer (some ⟨g8, 0, none⟩) :: .bool false :: undef :: undef :: .pointer (some ⟨g5, 0, none⟩) :: .int .i64 m.k :: .pointer (some ⟨g8, 0, none⟩) :: .int .i64 n.k :: .bool true :: .bool true :: .pointer (some ⟨g5, 1, none⟩) :: .int .u32 m.e :: .pointer (some ⟨g8, 1, none⟩) :: .int .u32 n.e :: .bool true :: .bool true :: .bool true :: .pointer (some ⟨g5, 2, none⟩) :: U32f7 (U16f7 (U8f7 ([]))))) _ (x_field (j := 2) _ _ rfl rfl Try.underlying33 rfl (by rfl) rfl) rfl ?_
      refine p_on rfl (by rw [hops104]; rfl) ?_
      refine p_run _ (x_load (.int .u64 m.s) rfl rfl (bkCell (HS.get (.tail _ (.head _))) 2 _ rfl) (by rfl)) rfl ?_
      refine p_on rfl (by rw [hops104]; rfl) ?_
      refine p_run _ (x_field (j := 2) _ _ rfl rfl Try.underlying33 rfl (by rfl) rfl) rfl ?_
      refine p_on rfl (by rw [hops104]; rfl) ?_
      refine p_run _ (x_load (.int .u64 n.s) rfl rfl (bkCell (HS.get (.head _)) 2 _ rfl) (by rfl)) rfl ?_
      refine p_on rfl (by rw [hops104]; rfl) ?_
      refine p_run _ (x_cmp (k := .u64) (m := m.s) (n := n.s) .eql true rfl rfl rfl (eql_yes q2) rfl) rfl ?_
      refine p_run _ (x_pick true (.bool true) (.bool false) (.bool true) rfl rfl rfl rfl rfl) rfl ?_
      refine p_run _ (x_move (.bool true) rfl rfl) rfl ?_
      refine p_on rfl (by rw [hops104]; rfl) ?_
      refine p_run (l' := (mgV m A c B d :: mgV n A2 c2 B2 d2 :: .pointer (some ⟨g5, 0, none⟩) :: .pointer (some ⟨g8, 0, none⟩) :: .bool false :: undef :: undef :: .pointer (some ⟨g5, 0, none⟩) :: .int .i64 m.k :: .pointer (some ⟨g8, 0, none⟩) :: .int .i64 n.k :: .bool true :: .bool true :: .pointer (some ⟨g5, 1, none⟩) :: .int .u32 m.e :: .pointer (some ⟨g8, 1, none⟩) :: .int .u32 n.e :: .bool true :: .bool true :: .bool true :: .pointer (some ⟨g5, 2, none⟩) :: .int .u64 m.s :: .pointer (some ⟨g8, 2, none⟩) :: .int .u64 n.s :: .bool true :: .bool true :: .bool true :: .pointer (some ⟨g5, 3, none⟩) :: U32f7 (U16f7 (undef :: [])))) _ (x_field (j := 3) _ _ rfl rfl Try.underlying33 rfl (by rfl) rfl) rfl ?_
      refine p_on rfl (by rw [hops104]; rfl) ?_
      refine p_run _ (x_loads [.int .u32 m.te, .int .u32 m.ts] 2 rfl rfl (bkCells (HS.get (.tail _ (.head _))) 3 _ rfl) (by rfl) (by kernel_rfl) rfl) rfl ?_
      refine p_on rfl (by rw [hops104]; rfl) ?_
      refine p_run _ (x_field (j := 3) _ _ rfl rfl Try.underlying33 rfl (by rfl) rfl) rfl ?_
      refine p_on rfl (by rw [hops104]; rfl) ?_
      refine p_run _ (x_loads [.int .u32 n.te, .int .u32 n.ts] 2 rfl rfl (bkCells (HS.get (.head _)) 3 _ rfl) (by rfl) (by kernel_rfl) rfl) rfl ?_
      refine p_on rfl (by rw [hops104]; rfl) ?_
      refine p_run _ (x_eq .eql (.agg ([.int .u32 m.te, .int .u32 m.ts] : List Value).toArray) (.agg ([.int .u32 n.te, .int .u32 n.ts] : List Value).toArray) (decide (m.te = n.te ∧ m.ts = n.ts)) true rfl rfl rfl (equal_lb _ _ _ _ _) (by rw [decide_eq_true q3]; rfl) rfl (guard_agg (by kernel_rfl)) (guard_agg (by kernel_rfl))) rfl ?_
      refine p_run _ (x_pick true (.bool true) (.bool false) (.bool true) rfl rfl rfl rfl rfl) rfl ?_
      refine p_run _ (x_move (.bool true) rfl rfl) rfl ?_
      refine p_on rfl (by rw [hops104]; rfl) ?_
      refine p_run (l' := (mgV m A c B d :: mgV n A2 c2 B2 d2 :: .pointer (some ⟨g5, 0, none⟩) :: .pointer (some ⟨g8, 0, none⟩) :: .bool false :: undef :: undef :: .pointer (some ⟨g5, 0, none⟩) :: .int .i64 m.k :: .pointer (some ⟨g8, 0, none⟩) :: .int .i64 n.k :: .bool true :: .bool true :: .pointer (some ⟨g5, 1, none⟩) :: .int .u32 m.e :: .pointer (some ⟨g8, 1, none⟩) :: .int .u32 n.e :: .bool true :: .bool true :: .bool true :: .pointer (some ⟨g5, 2, none⟩) :: .int .u64 m.s :: .pointer (some ⟨g8, 2, none⟩) :: .int .u64 n.s :: .bool true :: .bool true :: .bool true :: .pointer (some ⟨g5, 3, none⟩) :: .agg ([.int .u32 m.te, .int .u32 m.ts] : List Value).toArray :: .pointer (some ⟨g8, 3, none⟩) :: .agg ([.int .u32 n.te, .int .u32 n.ts] : List Value).toArray :: .bool true :: .bool true :: .bool true :: .pointer (some ⟨g5, 5, none⟩) :: U32f7 (U8f7 (undef :: undef :: [])))) _ (x_field (j := 5) _ _ rfl rfl Try.underlying33 rfl (by rfl) rfl) rfl ?_
      refine p_on rfl (by rw [hops104]; rfl) ?_
      refine p_run _ (x_loads [.int .u32 m.be, .int .u32 m.bs] 2 rfl rfl (bkCells (HS.get (.tail _ (.head _))) 5 _ rfl) (by rfl) (by kernel_rfl) rfl) rfl ?_
      refine p_on rfl (by rw [hops104]; rfl) ?_
      refine p_run _ (x_field (j := 5) _ _ rfl rfl Try.underlying33 rfl (by rfl) rfl) rfl ?_
      refine p_on rfl (by rw [hops104]; rfl) ?_
      refine p_run _ (x_loads [.int .u32 n.be, .int .u32 n.bs] 2 rfl rfl (bkCells (HS.get (.head _)) 5 _ rfl) (by rfl) (by kernel_rfl) rfl) rfl ?_
      refine p_on rfl (by rw [hops104]; rfl) ?_
      refine p_run _ (x_eq .eql (.agg ([.int .u32 m.be, .int .u32 m.bs] : List Value).toArray) (.agg ([.int .u32 n.be, .int .u32 n.bs] : List Value).toArray) (decide (m.be = n.be ∧ m.bs = n.bs)) true rfl rfl rfl (equal_lb _ _ _ _ _) (by rw [decide_eq_true q4]; rfl) rfl (guard_agg (by kernel_rfl)) (guard_agg (by kernel_rfl))) rfl ?_
      refine p_run _ (x_pick true (.bool true) (.bool false) (.bool true) rfl rfl rfl rfl rfl) rfl ?_
      refine p_run _ (x_assign (.bool true) rfl rfl) rfl ?_
      clear hops104
      refine wpList_nil ?_
      obtain ⟨qz106, hqz106⟩ : ∃ q_ : V8, q_ = ⟨.int .i64 m.k, .pointer (some ⟨g8, 0, none⟩), .int .i64 n.k, .bool true, .bool true, .pointer (some ⟨g5, 1, none⟩), .int .u32 m.e, .pointer (some ⟨g8, 1, none⟩)⟩ := ⟨_, rfl⟩
      obtain ⟨qz107, hqz107⟩ : ∃ q_ : V8, q_ = ⟨.int .u32 n.e, .bool true, .bool true, .bool true, .pointer (some ⟨g5, 2, none⟩), .int .u64 m.s, .pointer (some ⟨g8, 2, none⟩), .int .u64 n.s⟩ := ⟨_, rfl⟩
      obtain ⟨qz108, hqz108⟩ : ∃ q_ : V8, q_ = ⟨.bool true, .bool true, .bool true, .pointer (some ⟨g5, 3, none⟩), .agg ([.int .u32 m.te, .int .u32 m.ts] : List Value).toArray, .pointer (some ⟨g8, 3, none⟩), .agg ([.int .u32 n.te, .int .u32 n.ts] : List Value).toArray, .bool true⟩ := ⟨_, rfl⟩
      obtain ⟨qz109, hqz109⟩ : ∃ q_ : V8, q_ = ⟨.bool true, .bool true, .pointer (some ⟨g5, 5, none⟩), .agg ([.int .u32 m.be, .int .u32 m.bs] : List Value).toArray, .pointer (some ⟨g8, 5, none⟩), .agg ([.int .u32 n.be, .int .u32 n.bs] : List Value).toArray, .bool true, .bool true⟩ := ⟨_, rfl⟩
      refine fr_at (l' := (mgV m A c B d :: mgV n A2 c2 B2 d2 :: .pointer (some ⟨g5, 0, none⟩) :: .pointer (some ⟨g8, 0, none⟩) :: .bool false :: .bool true :: undef :: .pointer (some ⟨g5, 0, none⟩) :: V8.l qz106 (V8.l qz107 (V8.l qz108 (V8.l qz109 (U32f7 (U4f7 (undef :: [])))))))) (by subst hqz106 hqz107 hqz108 hqz109; rfl) ?_
      exact hT13 true ⟨.pointer (some ⟨g5, 0, none⟩), qz106.a, qz106.b, qz106.c, qz106.d, qz106.e, qz106.f, qz106.g⟩ ⟨qz106.h, qz107.a, qz107.b, qz107.c, qz107.d, qz107.e, qz107.f, qz107.g⟩ ⟨qz107.h, qz108.a, qz108.b, qz108.c, qz108.d, qz108.e, qz108.f, qz108.g⟩ ⟨qz108.h, qz109.a, qz109.b, qz109.c, qz109.d, qz109.e, qz109.f, qz109.g⟩ ⟨qz109.h, undef, undef, undef, undef, undef, undef, undef⟩ _ ((HS.front 1 rfl).front 1 rfl) (Eq.symm (by unfold hdB; rw [decide_eq_true q0, decide_eq_true q1, decide_eq_true q2, decide_eq_true q3, decide_eq_true q4]; rfl))
end Go.Proofs.Ytmachdikonelbaa
