/- LeafOpens. -/
import Derived.Test.YtiokdpnhaemciaaL8a
import Derived.Test.YtiokdpnhaemciaaRef8b
set_option linter.unusedVariables false
set_option linter.unusedSimpArgs false
namespace Go.Proofs.Ytiokdpnhaemciaa
open Go.RowKit Go.Proofs.YtiokdpnhaemciaaW.PrintWords Go.Proofs.YtiokdpnhaemciaaW.PrintLast Crc
abbrev U4o8 (l : List Value) : List Value := undef :: undef :: undef :: undef :: l
abbrev U8o8 (l : List Value) : List Value := U4o8 (U4o8 l)
abbrev U16o8 (l : List Value) : List Value := U8o8 (U8o8 l)
abbrev U32o8 (l : List Value) : List Value := U16o8 (U16o8 l)
abbrev U64o8 (l : List Value) : List Value := U32o8 (U32o8 l)
theorem part_at {P : Program} {w : World} {e o : Nat} {cs : Array Value} {u : Value} (hna : oneT P e = true) (h : cs[o]? = some u) : (part e cs o).run P w = .ok u w := by
  simp only [part, Sem.run_bind, run_oneT hna, Result.andThen_ok, h]
  simp
theorem equal_en (w : World) (x y : Int × Int) : (Op.equal 62 (.agg [Value.int .i64 x.1, Value.int .i64 x.2].toArray) (.agg [Value.int .i64 y.1, Value.int .i64 y.2].toArray)).run Try.prog w = .ok (decide (x = y)) w := by
  have key : ∀ fs : List Field, (fs.map fun f => (f.name == "_", f.type, f.offset)) = [(false, 3, 0), (false, 3, 1)] → (Op.eqFields 9999 [Value.int .i64 x.1, Value.int .i64 x.2].toArray [Value.int .i64 y.1, Value.int .i64 y.2].toArray fs).run Try.prog w = .ok (decide (x = y)) w := by
    intro fs h
    rcases fs with _ | ⟨f, _ | ⟨g, _ | ⟨f3, fs⟩⟩⟩
    · simp at h
    · simp at h
    · simp only [List.map_cons, List.map_nil, List.cons.injEq, Prod.mk.injEq, and_true] at h
      obtain ⟨⟨n1, t1, o1⟩, n2, t2, o2⟩ := h
      have m1 : f.name ≠ "_" := by simpa using n1
      have m2 : g.name ≠ "_" := by simpa using n2
      have hna : oneT Try.prog 3 = true := by kernel_rfl
      have he : ∀ a b : Int, (Op.equalIn 9999 3 (.int .i64 a) (.int .i64 b)).run Try.prog w = .ok (a == b) w := fun a b => run_equalIn_int w 9998 3 .i64 .i64 a b Try.underlying3
      have p1 : ∀ a b : Int, (part 3 #[Value.int .i64 a, Value.int .i64 b] 0).run Try.prog w = .ok (.int .i64 a) w := fun a b => part_at hna rfl
      have p2 : ∀ a b : Int, (part 3 #[Value.int .i64 a, Value.int .i64 b] 1).run Try.prog w = .ok (.int .i64 b) w := fun a b => part_at hna rfl
      obtain ⟨a, b⟩ := x
      obtain ⟨c, d⟩ := y
      show (Op.eqFields 9999 #[Value.int .i64 a, Value.int .i64 b] #[Value.int .i64 c, Value.int .i64 d] [f, g]).run Try.prog w = _
      simp only [Op.eqFields, if_pos m1, if_pos m2, t1, o1, t2, o2, Sem.run_bind, p1, p2, Result.andThen_ok, he]
      by_cases h1 : a = c
      · have b1 : (a == c) = true := by simpa using h1
        simp only [b1, Bool.not_true, Bool.false_eq_true, if_false, Sem.run_bind, p2, Result.andThen_ok, he]
        by_cases h2 : b = d
        · simp [h1, h2]
        · simp [h1, h2]
      · have b1 : (a == c) = false := by simpa using h1
        simp [b1, h1]
    · simp at h
  show (Op.equalIn (9999 + 1) 62 _ _).run Try.prog w = _
  rw [run_equalIn_struct w 9999 62 _ _ (by kernel_rfl) (by kernel_rfl)]
  exact key _ (by kernel_rfl)

theorem take_snoc {es fs : List (Int × Int)} {j : Nat} {x y : Int × Int} (h : es.take j = fs.take j) (hx : es[j]? = some x) (hy : fs[j]? = some y) (he : x = y) : es.take (j + 1) = fs.take (j + 1) := by
  subst he
  obtain ⟨h1, e1⟩ := List.getElem?_eq_some_iff.1 hx
  obtain ⟨h2, e2⟩ := List.getElem?_eq_some_iff.1 hy
  rw [List.take_succ_eq_append_getElem h1, List.take_succ_eq_append_getElem h2, h, e1, e2]
theorem en_both {w : World} {ad : Addr} {n : Nat} {es : List (Int × Int)} {j : Nat} {x : Int × Int} (h : kEn.C w (some ad) n es) (hx : es[j]? = some x) : ∀ i u, ([.int .i64 x.1, .int .i64 x.2] : List Value)[i]? = some u → w.cell? ((ad.add (j * 2)).add i) = some u := by
  obtain ⟨ad', x', e, hx', hc⟩ := en_get h j (List.getElem?_eq_some_iff.1 hx).1
  injection e with e
  subst e
  rw [hx] at hx'
  injection hx' with hx'
  subst hx'
  exact hc

set_option maxRecDepth 10000 in
set_option maxHeartbeats 1000000 in
theorem rsame8_any (w : World) (k : Int) (b : List UInt8) (hb : b.length = 16) (A : Option Addr) (c : Nat) (es : List (Int × Int)) (hr : kEn.C w A es.length es) (hl : es.length ≤ 1000) (B : Option Addr) (d : Nat) (hr2 : kEn.C w B es.length es) : Calls Try.prog 27 #[.agg (Value.int .i64 k :: ((nums .u8 (b.map bv)) ++ ([Value.slice A es.length c]))).toArray, .agg (Value.int .i64 k :: ((nums .u8 (b.map bv)) ++ ([Value.slice B es.length d]))).toArray] w fun e w' => e = .returned (.bool true) ∧ Below w.heap.size w w' := by
  have HS := St.empty w
  · skip
    refine c_enter Try.func27 rfl 45 rfl (.agg (Value.int .i64 k :: ((nums .u8 (b.map bv)) ++ ([Value.slice A es.length c]))).toArray :: .agg (Value.int .i64 k :: ((nums .u8 (b.map bv)) ++ ([Value.slice B es.length d]))).toArray :: U32o8 (U8o8 (undef :: undef :: undef :: []))) rfl ?_
    refine wp_seq_k (fun K1 hK2 => ?_)
    refine c_region (fun ops4 hops3 => ?_)
    clear hops3
    refine St.wBox HS (cs := (Value.int .i64 k :: ((nums .u8 (b.map bv)) ++ ([Value.slice A es.length c])))) (.agg (Value.int .i64 k :: ((nums .u8 (b.map bv)) ++ ([Value.slice A es.length c]))).toArray) rfl rfl ?_
    clear HS
    intro g5 w6 hg7 HS
    refine St.wBox HS (cs := (Value.int .i64 k :: ((nums .u8 (b.map bv)) ++ ([Value.slice B es.length d])))) (.agg (Value.int .i64 k :: ((nums .u8 (b.map bv)) ++ ([Value.slice B es.length d]))).toArray) rfl rfl ?_
    clear HS
    intro g8 w9 hg10 HS
    refine p_run _ (x_assign (.bool false) rfl rfl) rfl ?_
    refine wpList_nil ?_
    refine hK2 _ _ ?_
    refine wp_seq_k (fun K11 hK12 => ?_)
    refine wp_seq_k (fun K13 hK14 => ?_)
    refine c_region (fun ops16 hops15 => ?_)
    refine p_run _ (x_field (j := 0) _ _ rfl rfl Try.underlying52 rfl (by rfl) rfl) rfl ?_
    refine p_run _ (x_load (.int .i64 k) rfl rfl (bkCell (HS.get (.tail _ (.head _))) 0 _ rfl) (by rfl)) rfl ?_
    refine p_run _ (x_field (j := 0) _ _ rfl rfl Try.underlying52 rfl (by rfl) rfl) rfl ?_
    refine p_run _ (x_load (.int .i64 k) rfl rfl (bkCell (HS.get (.head _)) 0 _ rfl) (by rfl)) rfl ?_
    refine p_run _ (x_cmp (k := .i64) (m := k) (n := k) .neq false rfl rfl rfl (neq_yes' rfl) rfl) rfl ?_
    refine p_run _ (x_move (.bool false) rfl rfl) rfl ?_
    refine p_on rfl (by rw [hops15]; rfl) ?_
    refine p_run _ (x_field (j := 1) _ _ rfl rfl Try.underlying52 rfl (by rfl) rfl) rfl ?_
    refine p_on rfl (by rw [hops15]; rfl) ?_
    refine p_run _ (x_loads ((nums .u8 (b.map bv))) 16 rfl rfl (bkCells (HS.get (.tail _ (.head _))) 1 _ (by simp)) (by rfl) (by kernel_rfl) (by simp [List.length_map, hb, nums_length])) rfl ?_
    refine p_on rfl (by rw [hops15]; rfl) ?_
    refine p_run (l' := (.agg (Value.int .i64 k :: ((nums .u8 (b.map bv)) ++ ([Value.slice A es.length c]))).toArray :: .agg (Value.int .i64 k :: ((nums .u8 (b.map bv)) ++ ([Value.slice B es.length d]))).toArray :: .pointer (some ⟨g5, 0, none⟩) :: .pointer (some ⟨g8, 0, none⟩) :: .bool false :: undef :: .pointer (some ⟨g5, 0, none⟩) :: .int .i64 k :: .pointer (some ⟨g8, 0, none⟩) :: .int .i64 k :: .bool false :: .bool false :: .pointer (some ⟨g5, 1, none⟩) :: .agg ((nums .u8 (b.map bv))).toArray :: .pointer (some ⟨g8, 1, none⟩) :: U16o8 (U8o8 (U4o8 (undef :: undef :: []))))) _ (x_field (j := 1) _ _ rfl rfl Try.underlying52 rfl (by rfl) rfl) rfl ?_
    refine p_on rfl (by rw [hops15]; rfl) ?_
    refine p_run _ (x_loads ((nums .u8 (b.map bv))) 16 rfl rfl (bkCells (HS.get (.head _)) 1 _ (by simp)) (by rfl) (by kernel_rfl) (by simp [List.length_map, hb, nums_length])) rfl ?_
    refine p_on rfl (by rw [hops15]; rfl) ?_
    refine p_run _ (x_eq .neq (.agg ((nums .u8 (b.map bv))).toArray) (.agg ((nums .u8 (b.map bv))).toArray) (decide ((b.map bv) = (b.map bv))) false rfl rfl rfl (equal_nums Try.underlying49 Try.underlying5 (by kernel_rfl) (by kernel_rfl) _ _ (by simp [List.length_map, hb]) (by simp [List.length_map, hb])) (by simp [eqB]) rfl (guard_agg (by kernel_rfl)) (guard_agg (by kernel_rfl))) rfl ?_
    refine p_run _ (x_pick false (.bool true) (.bool false) (.bool false) rfl rfl rfl rfl rfl) rfl ?_
    refine p_run _ (x_move (.bool false) rfl rfl) rfl ?_
    refine p_on rfl (by rw [hops15]; rfl) ?_
    refine p_run _ (x_field (j := 17) _ _ rfl rfl Try.underlying52 rfl (by rfl) rfl) rfl ?_
    refine p_on rfl (by rw [hops15]; rfl) ?_
    refine p_run _ (x_load (.slice A es.length c) rfl rfl (bkCell (HS.get (.tail _ (.head _))) 17 _ (by simp [List.getElem?_append, List.length_map, hb, nums_length])) (by rfl)) rfl ?_
    refine p_on rfl (by rw [hops15]; rfl) ?_
    refine p_run _ (x_len rfl rfl Try.underlying50) rfl ?_
    refine p_on rfl (by rw [hops15]; rfl) ?_
    refine p_run _ (x_field (j := 17) _ _ rfl rfl Try.underlying52 rfl (by rfl) rfl) rfl ?_
    refine p_on rfl (by rw [hops15]; rfl) ?_
    refine p_run _ (x_load (.slice B es.length d) rfl rfl (bkCell (HS.get (.head _)) 17 _ (by simp [List.getElem?_append, List.length_map, hb, nums_length])) (by rfl)) rfl ?_
    refine p_on rfl (by rw [hops15]; rfl) ?_
    refine p_run _ (x_len rfl rfl Try.underlying50) rfl ?_
    refine p_on rfl (by rw [hops15]; rfl) ?_
    refine p_run _ (x_cmp (k := .i64) (m := (es.length : Int)) (n := (es.length : Int)) .neq false rfl rfl rfl (neq_yes' rfl) rfl) rfl ?_
    refine p_run (l' := (.agg (Value.int .i64 k :: ((nums .u8 (b.map bv)) ++ ([Value.slice A es.length c]))).toArray :: .agg (Value.int .i64 k :: ((nums .u8 (b.map bv)) ++ ([Value.slice B es.length d]))).toArray :: .pointer (some ⟨g5, 0, none⟩) :: .pointer (some ⟨g8, 0, none⟩) :: .bool false :: undef :: .pointer (some ⟨g5, 0, none⟩) :: .int .i64 k :: .pointer (some ⟨g8, 0, none⟩) :: .int .i64 k :: .bool false :: .bool false :: .pointer (some ⟨g5, 1, none⟩) :: .agg ((nums .u8 (b.map bv))).toArray :: .pointer (some ⟨g8, 1, none⟩) :: .agg ((nums .u8 (b.map bv))).toArray :: .bool false :: .bool false :: .bool false :: .pointer (some ⟨g5, 17, none⟩) :: .slice A es.length c :: .int .i64 (es.length : Int) :: .pointer (some ⟨g8, 17, none⟩) :: .slice B es.length d :: .int .i64 (es.length : Int) :: .bool false :: .bool false :: U16o8 (undef :: undef :: []))) _ (x_pick false (.bool true) (.bool false) (.bool false) rfl rfl rfl rfl rfl) rfl ?_
    clear hops15
    refine wpList_nil ?_
    refine hK14 _ _ ?_
    refine c_false rfl ?_
    refine wp_skip ?_
    refine hK12 _ _ ?_
    refine wp_seq_k (fun K17 hK18 => ?_)
    refine wp_seq_k (fun K19 hK20 => ?_)
    refine c_region (fun ops22 hops21 => ?_)
    clear hops21
    refine p_run _ (x_field (j := 17) _ _ rfl rfl Try.underlying52 rfl (by rfl) rfl) rfl ?_
    refine p_run _ (x_load (.slice A es.length c) rfl rfl (bkCell (HS.get (.tail _ (.head _))) 17 _ (by simp [List.getElem?_append, List.length_map, hb, nums_length])) (by rfl)) rfl ?_
    refine p_run _ (x_len rfl rfl Try.underlying50) rfl ?_
    refine p_run _ (x_move (.int .i64 0) rfl rfl) rfl ?_
    refine wpList_nil ?_
    refine fr_at (l' := (.agg (Value.int .i64 k :: ((nums .u8 (b.map bv)) ++ ([Value.slice A es.length c]))).toArray :: .agg (Value.int .i64 k :: ((nums .u8 (b.map bv)) ++ ([Value.slice B es.length d]))).toArray :: .pointer (some ⟨g5, 0, none⟩) :: .pointer (some ⟨g8, 0, none⟩) :: .bool false :: undef :: .pointer (some ⟨g5, 0, none⟩) :: .int .i64 k :: .pointer (some ⟨g8, 0, none⟩) :: .int .i64 k :: .bool false :: .bool false :: .pointer (some ⟨g5, 1, none⟩) :: .agg ((nums .u8 (b.map bv))).toArray :: .pointer (some ⟨g8, 1, none⟩) :: .agg ((nums .u8 (b.map bv))).toArray :: .bool false :: .bool false :: .bool false :: .pointer (some ⟨g5, 17, none⟩) :: .slice A es.length c :: .int .i64 (es.length : Int) :: .pointer (some ⟨g8, 17, none⟩) :: .slice B es.length d :: .int .i64 (es.length : Int) :: .bool false :: .bool false :: .pointer (some ⟨g5, 17, none⟩) :: .slice A es.length c :: .int .i64 (es.length : Int) :: .int .i64 0 :: U8o8 (U4o8 (undef :: undef :: [])))) rfl ?_
    refine hK20 _ _ ?_
    refine wp_block ?_
    refine c_loop (ι := Nat) (fun i_ a_ w_ => match i_ with | j => ∃ (u4 : Value) (u5 : Value) (u31 : Value) (u32 : Value) (u33 : Value) (u34 : Value) (u35 : Value) (u36 : Value) (u37 : Value) (u38 : Value) (u39 : Value) (u40 : Value) (u41 : Value) (u42 : Value) (u43 : Value) (u44 : Value), a_ = fr (.agg (Value.int .i64 k :: ((nums .u8 (b.map bv)) ++ ([Value.slice A es.length c]))).toArray :: .agg (Value.int .i64 k :: ((nums .u8 (b.map bv)) ++ ([Value.slice B es.length d]))).toArray :: .pointer (some ⟨g5, 0, none⟩) :: .pointer (some ⟨g8, 0, none⟩) :: u4 :: u5 :: .pointer (some ⟨g5, 0, none⟩) :: .int .i64 k :: .pointer (some ⟨g8, 0, none⟩) :: .int .i64 k :: .bool false :: .bool false :: .pointer (some ⟨g5, 1, none⟩) :: .agg ((nums .u8 (b.map bv))).toArray :: .pointer (some ⟨g8, 1, none⟩) :: .agg ((nums .u8 (b.map bv))).toArray :: .bool false :: .bool false :: .bool false :: .pointer (some ⟨g5, 17, none⟩) :: .slice A es.length c :: .int .i64 (es.length : Int) :: .pointer (some ⟨g8, 17, none⟩) :: .slice B es.length d :: .int .i64 (es.length : Int) :: .bool false :: .bool false :: .pointer (some ⟨g5, 17, none⟩) :: .slice A es.length c :: .int .i64 (es.length : Int) :: .int .i64 (j : Int) :: u31 :: u32 :: u33 :: u34 :: u35 :: u36 :: u37 :: u38 :: u39 :: u40 :: u41 :: u42 :: u43 :: u44 :: []) ∧ St w (fun _ => False) w_ ([blk g8 (Value.int .i64 k :: ((nums .u8 (b.map bv)) ++ ([Value.slice B es.length d]))) 52, blk g5 (Value.int .i64 k :: ((nums .u8 (b.map bv)) ++ ([Value.slice A es.length c]))) 52]) ∧ (j ≤ es.length)) (fun i_ => match i_ with | j => es.length - j) 0 ?_ ?_
    · exact ⟨_, _, _, _, _, _, _, _, _, _, _, _, _, _, _, _, rfl, ((HS.front 1 rfl).front 1 rfl), (by omega)⟩
    · clear HS
      rintro j a_ w25 ⟨u4, u5, u31, u32, u33, u34, u35, u36, u37, u38, u39, u40, u41, u42, u43, u44, rfl, HS, hI⟩ J23 hJ24
      have hj := hI
      refine wp_seq_k (fun K26 hK27 => ?_)
      refine c_region (fun ops29 hops28 => ?_)
      clear hops28
      refine p_run _ (x_cmp (k := .i64) (m := (j : Int)) (n := (es.length : Int)) .lss (decide ((j : Int) < (es.length : Int))) rfl rfl rfl rfl rfl) rfl ?_
      refine wpList_nil ?_
      refine hK27 _ _ ?_
      refine wp_seq_k (fun K30 hK31 => ?_)
      refine c_cond (t := decide ((j : Int) < (es.length : Int))) rfl (fun hc32 => ?_) (fun hc32 => ?_)
      · have hlt : j < es.length := by have := of_decide_eq_true hc32; omega
        obtain ⟨ad, x, rfl, hx, hcell⟩ := en_get (Kd.C_below hr HS.belowOf) j hlt
        obtain ⟨ae, y, rfl, hy, hcell2⟩ := en_get (Kd.C_below hr2 HS.belowOf) j hlt
        refine wp_skip ?_
        refine hK31 _ _ ?_
        refine wp_seq_k (fun K33 hK34 => ?_)
        refine wp_block ?_
        refine wp_seq_k (fun K35 hK36 => ?_)
        refine c_region (fun ops38 hops37 => ?_)
        clear hops37
        refine p_run _ (x_move (.int .i64 (j : Int)) rfl rfl) rfl ?_
        refine p_run _ (x_assign (.int .i64 (j : Int)) rfl rfl) rfl ?_
        refine wpList_nil ?_
        refine hK36 _ _ ?_
        refine wp_seq_k (fun K39 hK40 => ?_)
        refine free_frame (n := 11) (T := _) [0, 1, 0, 7, 15, 0, 32, 0, 224, 480, 1023] [(0, 33), (1, 34), (2, 35), (3, 36), (4, 37), (5, 38), (6, 39), (7, 40), (8, 41), (9, 42), (10, 43)] (fun bq_ vq_ w_ => qv ((fun i_ => match i_ with | 0 => some (.pointer (some ⟨g5, 17, none⟩)) | 1 => some (.slice (some ad) es.length c) | 2 => some (.int .i64 (j : Int)) | 3 => some (.pointer (some ((ad).add (j * 2)))) | 4 => some (.agg ([.int .i64 x.1, .int .i64 x.2] : List Value).toArray) | 5 => some (.pointer (some ⟨g8, 17, none⟩)) | 6 => some (.slice (some ae) es.length d) | 7 => some (.int .i64 (j : Int)) | 8 => some (.pointer (some ((ae).add (j * 2)))) | 9 => some (.agg ([.int .i64 x.1, .int .i64 x.2] : List Value).toArray) | 10 => some (.bool false) | _ => none) : Nat → Option Value) bq_ vq_ ∧ (St w (fun _ => False) w_ ([blk g8 (Value.int .i64 k :: ((nums .u8 (b.map bv)) ++ ([Value.slice (some ae) es.length d]))) 52, blk g5 (Value.int .i64 k :: ((nums .u8 (b.map bv)) ++ ([Value.slice (some ad) es.length c]))) 52]))) (by kernel_rfl) rfl rfl (by kernel_rfl) (by kernel_rfl) rfl (by kernel_rfl) (by kernel_rfl) ⟨qv_none, HS.draw⟩ ?_ ?_
        · clear HS
          intro i_ hi_ bq_ vq_ a_ w_ hG hb_ hon hoff hfr hel hval
          obtain ⟨hV, hE⟩ := hG
          have hi_ := List.mem_range.1 hi_
          obtain ⟨l_, rfl⟩ := hfr
          have hv_ := fun (j t : Nat) (v : Value) (h1 : (j, t) ∈ [(0, 33), (1, 34), (2, 35), (3, 36), (4, 37), (5, 38), (6, 39), (7, 40), (8, 41), (9, 42), (10, 43)]) h2 h3 => (hval (j, t) h1 h3).trans (congrArg some (hV j v h2 h3))
          have hcs : i_ = 0 ∨ i_ = 1 ∨ i_ = 2 ∨ i_ = 3 ∨ i_ = 4 ∨ i_ = 5 ∨ i_ = 6 ∨ i_ = 7 ∨ i_ = 8 ∨ i_ = 9 ∨ i_ = 10 := by omega
          rcases hcs with rfl | rfl | rfl | rfl | rfl | rfl | rfl | rfl | rfl | rfl | rfl
          · have e2 : evl l_ (.tmp 2) = .pointer (some ⟨g5, 0, none⟩) := evl_of ((hel 2 (by decide)).trans rfl)
            exact ⟨_, rfl, fun K_ hK_ => q_op _ (x_field (j := 17) _ _ rfl e2 Try.underlying52 rfl (by rfl) rfl) (hK_ _ _ ⟨qv_up hV (fun _ h => Option.some.inj h), hE⟩)⟩
          · have hE0 := hE
            have HS := hE0
            have e33 : evl l_ (.tmp 33) = .pointer (some ⟨g5, 17, none⟩) := evl_of (hv_ 0 33 _ (by decide) rfl (hon 0 (by decide)))
            exact ⟨_, rfl, fun K_ hK_ => q_op _ (x_load (.slice (some ad) es.length c) rfl e33 (bkCell (HS.get (.tail _ (.head _))) 17 _ (by simp [List.getElem?_append, List.length_map, hb, nums_length])) (by rfl)) (hK_ _ _ ⟨qv_up hV (fun _ h => Option.some.inj h), hE⟩)⟩
          · have e5 : evl l_ (.tmp 5) = .int .i64 (j : Int) := evl_of ((hel 5 (by decide)).trans rfl)
            exact ⟨_, rfl, fun K_ hK_ => q_op _ (x_move (.int .i64 (j : Int)) rfl e5) (hK_ _ _ ⟨qv_up hV (fun _ h => Option.some.inj h), hE⟩)⟩
          · have e34 : evl l_ (.tmp 34) = .slice (some ad) es.length c := evl_of (hv_ 1 34 _ (by decide) rfl (hon 1 (by decide)))
            have e35 : evl l_ (.tmp 35) = .int .i64 (j : Int) := evl_of (hv_ 2 35 _ (by decide) rfl (hon 2 (by decide)))
            exact ⟨_, rfl, fun K_ hK_ => q_op _ (x_index (A := ad) (j := j * 2) (sz := 2) rfl e34 e35 Try.underlying50 (by kernel_rfl) (by omega) rfl) (hK_ _ _ ⟨qv_up hV (fun _ h => Option.some.inj h), hE⟩)⟩
          · have hE0 := hE
            have HS := hE0
            have e36 : evl l_ (.tmp 36) = .pointer (some ((ad).add (j * 2))) := evl_of (hv_ 3 36 _ (by decide) rfl (hon 3 (by decide)))
            exact ⟨_, rfl, fun K_ hK_ => q_op _ (x_loads [.int .i64 x.1, .int .i64 x.2] 2 rfl e36 (en_both (Kd.C_below hr HS.belowOf) hx) (by rfl) (by kernel_rfl) rfl) (hK_ _ _ ⟨qv_up hV (fun _ h => Option.some.inj h), hE⟩)⟩
          · have e3 : evl l_ (.tmp 3) = .pointer (some ⟨g8, 0, none⟩) := evl_of ((hel 3 (by decide)).trans rfl)
            exact ⟨_, rfl, fun K_ hK_ => q_op _ (x_field (j := 17) _ _ rfl e3 Try.underlying52 rfl (by rfl) rfl) (hK_ _ _ ⟨qv_up hV (fun _ h => Option.some.inj h), hE⟩)⟩
          · have hE0 := hE
            have HS := hE0
            have e38 : evl l_ (.tmp 38) = .pointer (some ⟨g8, 17, none⟩) := evl_of (hv_ 5 38 _ (by decide) rfl (hon 5 (by decide)))
            exact ⟨_, rfl, fun K_ hK_ => q_op _ (x_load (.slice (some ae) es.length d) rfl e38 (bkCell (HS.get (.head _)) 17 _ (by simp [List.getElem?_append, List.length_map, hb, nums_length])) (by rfl)) (hK_ _ _ ⟨qv_up hV (fun _ h => Option.some.inj h), hE⟩)⟩
          · have e5 : evl l_ (.tmp 5) = .int .i64 (j : Int) := evl_of ((hel 5 (by decide)).trans rfl)
            exact ⟨_, rfl, fun K_ hK_ => q_op _ (x_move (.int .i64 (j : Int)) rfl e5) (hK_ _ _ ⟨qv_up hV (fun _ h => Option.some.inj h), hE⟩)⟩
          · have e39 : evl l_ (.tmp 39) = .slice (some ae) es.length d := evl_of (hv_ 6 39 _ (by decide) rfl (hon 6 (by decide)))
            have e40 : evl l_ (.tmp 40) = .int .i64 (j : Int) := evl_of (hv_ 7 40 _ (by decide) rfl (hon 7 (by decide)))
            exact ⟨_, rfl, fun K_ hK_ => q_op _ (x_index (A := ae) (j := j * 2) (sz := 2) rfl e39 e40 Try.underlying50 (by kernel_rfl) (by omega) rfl) (hK_ _ _ ⟨qv_up hV (fun _ h => Option.some.inj h), hE⟩)⟩
          · have hE0 := hE
            have HS := hE0
            have e41 : evl l_ (.tmp 41) = .pointer (some ((ae).add (j * 2))) := evl_of (hv_ 8 41 _ (by decide) rfl (hon 8 (by decide)))
            exact ⟨_, rfl, fun K_ hK_ => q_op _ (x_loads [.int .i64 x.1, .int .i64 x.2] 2 rfl e41 (en_both (Kd.C_below hr2 HS.belowOf) hx) (by rfl) (by kernel_rfl) rfl) (hK_ _ _ ⟨qv_up hV (fun _ h => Option.some.inj h), hE⟩)⟩
          · have hE0 := hE
            have HS := hE0
            have e37 : evl l_ (.tmp 37) = .agg ([.int .i64 x.1, .int .i64 x.2] : List Value).toArray := evl_of (hv_ 4 37 _ (by decide) rfl (hon 4 (by decide)))
            have e42 : evl l_ (.tmp 42) = .agg ([.int .i64 x.1, .int .i64 x.2] : List Value).toArray := evl_of (hv_ 9 42 _ (by decide) rfl (hon 9 (by decide)))
            exact ⟨_, rfl, fun K_ hK_ => q_op _ (x_eq .neq (.agg ([.int .i64 x.1, .int .i64 x.2] : List Value).toArray) (.agg ([.int .i64 x.1, .int .i64 x.2] : List Value).toArray) (decide (x = x)) false rfl e37 e42 (equal_en _ x x) (by rw [decide_eq_true rfl]; rfl) rfl (guard_agg (by kernel_rfl)) (guard_agg (by kernel_rfl))) (hK_ _ _ ⟨qv_up hV (fun _ h => Option.some.inj h), hE⟩)⟩
        intro bq_ vq_ w_ hall hG
        obtain ⟨hV, hE⟩ := hG
        clear HS
        have HS := hE
        have hv0 := hV 0 _ rfl (hall 0 (by decide))
        have hv1 := hV 1 _ rfl (hall 1 (by decide))
        have hv2 := hV 2 _ rfl (hall 2 (by decide))
        have hv3 := hV 3 _ rfl (hall 3 (by decide))
        have hv4 := hV 4 _ rfl (hall 4 (by decide))
        have hv5 := hV 5 _ rfl (hall 5 (by decide))
        have hv6 := hV 6 _ rfl (hall 6 (by decide))
        have hv7 := hV 7 _ rfl (hall 7 (by decide))
        have hv8 := hV 8 _ rfl (hall 8 (by decide))
        have hv9 := hV 9 _ rfl (hall 9 (by decide))
        have hv10 := hV 10 _ rfl (hall 10 (by decide))
        clear hV hall
        rw [putSel_fr]
        simp only [tells, List.map_cons, List.map_nil, setAll, List.set_cons_succ, List.set_cons_zero, hv0, hv1, hv2, hv3, hv4, hv5, hv6, hv7, hv8, hv9, hv10]
        clear hv0 hv1 hv2 hv3 hv4 hv5 hv6 hv7 hv8 hv9 hv10
        generalize w_ = w901001 at HS ⊢
        refine fr_at (l' := (.agg (Value.int .i64 k :: ((nums .u8 (b.map bv)) ++ ([Value.slice (some ad) es.length c]))).toArray :: .agg (Value.int .i64 k :: ((nums .u8 (b.map bv)) ++ ([Value.slice (some ae) es.length d]))).toArray :: .pointer (some ⟨g5, 0, none⟩) :: .pointer (some ⟨g8, 0, none⟩) :: u4 :: .int .i64 (j : Int) :: .pointer (some ⟨g5, 0, none⟩) :: .int .i64 k :: .pointer (some ⟨g8, 0, none⟩) :: .int .i64 k :: .bool false :: .bool false :: .pointer (some ⟨g5, 1, none⟩) :: .agg ((nums .u8 (b.map bv))).toArray :: .pointer (some ⟨g8, 1, none⟩) :: .agg ((nums .u8 (b.map bv))).toArray :: .bool false :: .bool false :: .bool false :: .pointer (some ⟨g5, 17, none⟩) :: .slice (some ad) es.length c :: .int .i64 (es.length : Int) :: .pointer (some ⟨g8, 17, none⟩) :: .slice (some ae) es.length d :: .int .i64 (es.length : Int) :: .bool false :: .bool false :: .pointer (some ⟨g5, 17, none⟩) :: .slice (some ad) es.length c :: .int .i64 (es.length : Int) :: .int .i64 (j : Int) :: .bool (decide ((j : Int) < (es.length : Int))) :: .int .i64 (j : Int) :: .pointer (some ⟨g5, 17, none⟩) :: .slice (some ad) es.length c :: .int .i64 (j : Int) :: .pointer (some ((ad).add (j * 2))) :: .agg ([.int .i64 x.1, .int .i64 x.2] : List Value).toArray :: .pointer (some ⟨g8, 17, none⟩) :: .slice (some ae) es.length d :: .int .i64 (j : Int) :: .pointer (some ((ae).add (j * 2))) :: .agg ([.int .i64 x.1, .int .i64 x.2] : List Value).toArray :: .bool false :: u44 :: [])) rfl ?_
        refine hK40 _ _ ?_
        refine c_false rfl ?_
        refine wp_skip ?_
        refine hK34 _ _ ?_
        refine c_region (fun ops901003 hops901002 => ?_)
        clear hops901002
        refine p_run _ (x_arith (k := .i64) (m := (j : Int)) (n := 1) .add (((j + 1 : Nat) : Int)) rfl rfl rfl (show IntKind.i64.wrap ((j : Int) + 1) = ((j + 1 : Nat) : Int) from ((wr64' (by omega)).trans (by omega))) rfl) rfl ?_
        refine p_run _ (x_move (.int .i64 ((j + 1 : Nat) : Int)) rfl rfl) rfl ?_
        refine wpList_nil ?_
        refine fr_at (l' := (.agg (Value.int .i64 k :: ((nums .u8 (b.map bv)) ++ ([Value.slice (some ad) es.length c]))).toArray :: .agg (Value.int .i64 k :: ((nums .u8 (b.map bv)) ++ ([Value.slice (some ae) es.length d]))).toArray :: .pointer (some ⟨g5, 0, none⟩) :: .pointer (some ⟨g8, 0, none⟩) :: u4 :: .int .i64 (j : Int) :: .pointer (some ⟨g5, 0, none⟩) :: .int .i64 k :: .pointer (some ⟨g8, 0, none⟩) :: .int .i64 k :: .bool false :: .bool false :: .pointer (some ⟨g5, 1, none⟩) :: .agg ((nums .u8 (b.map bv))).toArray :: .pointer (some ⟨g8, 1, none⟩) :: .agg ((nums .u8 (b.map bv))).toArray :: .bool false :: .bool false :: .bool false :: .pointer (some ⟨g5, 17, none⟩) :: .slice (some ad) es.length c :: .int .i64 (es.length : Int) :: .pointer (some ⟨g8, 17, none⟩) :: .slice (some ae) es.length d :: .int .i64 (es.length : Int) :: .bool false :: .bool false :: .pointer (some ⟨g5, 17, none⟩) :: .slice (some ad) es.length c :: .int .i64 (es.length : Int) :: .int .i64 ((j + 1 : Nat) : Int) :: .bool (decide ((j : Int) < (es.length : Int))) :: .int .i64 (j : Int) :: .pointer (some ⟨g5, 17, none⟩) :: .slice (some ad) es.length c :: .int .i64 (j : Int) :: .pointer (some ((ad).add (j * 2))) :: .agg ([.int .i64 x.1, .int .i64 x.2] : List Value).toArray :: .pointer (some ⟨g8, 17, none⟩) :: .slice (some ae) es.length d :: .int .i64 (j : Int) :: .pointer (some ((ae).add (j * 2))) :: .agg ([.int .i64 x.1, .int .i64 x.2] : List Value).toArray :: .bool false :: .int .i64 ((j + 1 : Nat) : Int) :: [])) rfl ?_
        refine hJ24 (j + 1) _ _ ?_ ?_
        · show es.length - (j + 1) < es.length - j; omega
        · exact ⟨_, _, _, _, _, _, _, _, _, _, _, _, _, _, _, _, rfl, ((HS.front 1 rfl).front 1 rfl), (by omega)⟩
      · have hlt : j = es.length := by have := of_decide_eq_false hc32; omega
        refine wp_exit ?_
        refine hK18 _ _ ?_
        refine wp_seq_k (fun K901004 hK901005 => ?_)
        refine c_region (fun ops901007 hops901006 => ?_)
        clear hops901006
        refine p_run _ (x_assign (.bool true) rfl rfl) rfl ?_
        refine wpList_nil ?_
        refine hK901005 _ _ ?_
        refine wp_ret ?_
        try simp only [Exit.inBlock, Exit.then]
        refine c_ret (.bool true) (r_tmp rfl rfl) ?_
        exact ⟨rfl, HS.belowOf⟩

set_option maxRecDepth 10000 in
set_option maxHeartbeats 2000000 in
theorem lopens_law (w : World) (q : List UInt8) (hq : q.length = 256) : Calls Try.prog 9 #[.agg ((nums .u8 (q.map bv))).toArray] w fun e w' => e = .returned (.bool true) ∧ Below w.heap.size w w' := by
  have HS := St.empty w
  · skip
    refine c_enter Try.func9 rfl 27 rfl (.agg ((nums .u8 (q.map bv))).toArray :: U16o8 (U8o8 (undef :: undef :: []))) rfl ?_
    refine wp_seq_k (fun K1 hK2 => ?_)
    refine c_region (fun ops4 hops3 => ?_)
    clear hops3
    refine St.wBox HS (cs := ((nums .u8 (q.map bv)))) (.agg ((nums .u8 (q.map bv))).toArray) rfl rfl ?_
    clear HS
    intro g5 w6 hg7 HS
    refine p_run _ (x_assign (.bool false) rfl rfl) rfl ?_
    refine wpList_nil ?_
    refine hK2 _ _ ?_
    refine wp_seq_k (fun K8 hK9 => ?_)
    refine wp_seq_k (fun K10 hK11 => ?_)
    refine c_region (fun ops13 hops12 => ?_)
    clear hops12
    refine w_call [] Try.func25 (by kernel_rfl) (by rfl) rfl ?_
    refine (lalive_any _).mono ?_
    rintro e w14 ⟨rfl, hb_⟩
    replace HS := HS.here hb_
    clear hb_
    refine ⟨_, rfl, ?_⟩
    refine p_run _ (x_not true rfl rfl) rfl ?_
    refine wpList_nil ?_
    refine hK11 _ _ ?_
    refine c_false rfl ?_
    refine wp_skip ?_
    refine hK9 _ _ ?_
    refine wp_seq_k (fun K15 hK16 => ?_)
    refine c_region (fun ops18 hops17 => ?_)
    clear hops17
    refine p_run _ (x_loads ((nums .u8 (q.map bv))) 256 rfl rfl (bkCells (HS.get (.head _)) 0 _ (whole _)) (by rfl) (by kernel_rfl) (by simp [List.length_map, hq, nums_length])) rfl ?_
    refine w_call [.agg ((nums .u8 (q.map bv))).toArray] Try.func24 (by kernel_rfl) (by rfl) rfl ?_
    refine (lopen_any _ q hq).mono ?_
    rintro e w21 ⟨oa19, nc20, rfl, hk_⟩
    replace HS := HS.more hk_
    clear hk_
    refine ⟨_, rfl, ?_⟩
    refine p_run _ (x_move (.tuple [.agg (Value.int .i64 (opK q) :: ((nums .u8 ((opB q).map bv)) ++ ([Value.slice oa19 ((opS q).length) nc20]))).toArray, .int .i64 (opE q)].toArray) rfl rfl) rfl ?_
    refine p_run _ (x_extract (vs := [.agg (Value.int .i64 (opK q) :: ((nums .u8 ((opB q).map bv)) ++ ([Value.slice oa19 ((opS q).length) nc20]))).toArray, .int .i64 (opE q)]) 0 (.agg (Value.int .i64 (opK q) :: ((nums .u8 ((opB q).map bv)) ++ ([Value.slice oa19 ((opS q).length) nc20]))).toArray) rfl rfl rfl) rfl ?_
    refine p_run _ (x_extract (vs := [.agg (Value.int .i64 (opK q) :: ((nums .u8 ((opB q).map bv)) ++ ([Value.slice oa19 ((opS q).length) nc20]))).toArray, .int .i64 (opE q)]) 1 (.int .i64 (opE q)) rfl rfl rfl) rfl ?_
    refine St.wAlloc HS (cs := (Value.int .i64 0 :: ((nums .u8 (zK.map bv)) ++ ([Value.slice none 0 0])))) (.agg (Value.int .i64 0 :: ((nums .u8 (zK.map bv)) ++ ([Value.slice none 0 0]))).toArray) (by kernel_rfl) rfl ?_
    clear HS
    intro g22 w23 hg24 HS
    refine St.stores (cs' := (Value.int .i64 (opK q) :: ((nums .u8 ((opB q).map bv)) ++ ([Value.slice oa19 ((opS q).length) nc20])))) HS (Value.int .i64 (opK q) :: ((nums .u8 ((opB q).map bv)) ++ ([Value.slice oa19 ((opS q).length) nc20]))) 18 rfl rfl (all1 rfl (allA (nums_one _ _) (all1 rfl rfl))) (by kernel_rfl) (by simp [(opB_len hq), List.length_map, nums_length]) (by simp [(opB_len hq), List.length_map, nums_length, zK_len]) (lay_all _ _ (by simp [(opB_len hq), List.length_map, nums_length, zK_len])) ?_
    clear HS
    intro w25 HS
    refine p_run _ (x_assign (.int .i64 (opE q)) rfl rfl) rfl ?_
    refine wpList_nil ?_
    refine fr_at (l' := (.agg ((nums .u8 (q.map bv))).toArray :: .pointer (some ⟨g5, 0, none⟩) :: .bool false :: .pointer (some ⟨g22, 0, none⟩) :: .int .i64 (opE q) :: undef :: undef :: .bool true :: .bool false :: .tuple [.agg (Value.int .i64 (opK q) :: ((nums .u8 ((opB q).map bv)) ++ ([Value.slice oa19 ((opS q).length) nc20]))).toArray, .int .i64 (opE q)].toArray :: .agg ((nums .u8 (q.map bv))).toArray :: .tuple [.agg (Value.int .i64 (opK q) :: ((nums .u8 ((opB q).map bv)) ++ ([Value.slice oa19 ((opS q).length) nc20]))).toArray, .int .i64 (opE q)].toArray :: .agg (Value.int .i64 (opK q) :: ((nums .u8 ((opB q).map bv)) ++ ([Value.slice oa19 ((opS q).length) nc20]))).toArray :: .int .i64 (opE q) :: U8o8 (U4o8 (undef :: [])))) rfl ?_
    refine hK16 _ _ ?_
    refine wp_seq_k (fun K26 hK27 => ?_)
    refine c_region (fun ops29 hops28 => ?_)
    clear hops28
    refine p_run _ (x_loads ((nums .u8 (q.map bv))) 256 rfl rfl (bkCells (HS.get (.tail _ (.tail _ (.head _)))) 0 _ (whole _)) (by rfl) (by kernel_rfl) (by simp [List.length_map, hq, nums_length])) rfl ?_
    refine w_call [.agg ((nums .u8 (q.map bv))).toArray] Try.func26 (by kernel_rfl) (by rfl) rfl ?_
    refine (ropen8_any _ q hq).mono ?_
    rintro e w32 ⟨oa30, nc31, rfl, hk_⟩
    replace HS := HS.more hk_
    clear hk_
    refine ⟨_, rfl, ?_⟩
    refine p_run _ (x_move (.tuple [.agg (Value.int .i64 (opK q) :: ((nums .u8 ((opB q).map bv)) ++ ([Value.slice oa30 ((opS q).length) nc31]))).toArray, .int .i64 (opE q)].toArray) rfl rfl) rfl ?_
    refine p_run _ (x_extract (vs := [.agg (Value.int .i64 (opK q) :: ((nums .u8 ((opB q).map bv)) ++ ([Value.slice oa30 ((opS q).length) nc31]))).toArray, .int .i64 (opE q)]) 0 (.agg (Value.int .i64 (opK q) :: ((nums .u8 ((opB q).map bv)) ++ ([Value.slice oa30 ((opS q).length) nc31]))).toArray) rfl rfl rfl) rfl ?_
    refine p_run _ (x_extract (vs := [.agg (Value.int .i64 (opK q) :: ((nums .u8 ((opB q).map bv)) ++ ([Value.slice oa30 ((opS q).length) nc31]))).toArray, .int .i64 (opE q)]) 1 (.int .i64 (opE q)) rfl rfl rfl) rfl ?_
    refine St.wAlloc HS (cs := (Value.int .i64 0 :: ((nums .u8 (zK.map bv)) ++ ([Value.slice none 0 0])))) (.agg (Value.int .i64 0 :: ((nums .u8 (zK.map bv)) ++ ([Value.slice none 0 0]))).toArray) (by kernel_rfl) rfl ?_
    clear HS
    intro g33 w34 hg35 HS
    refine St.stores (cs' := (Value.int .i64 (opK q) :: ((nums .u8 ((opB q).map bv)) ++ ([Value.slice oa30 ((opS q).length) nc31])))) HS (Value.int .i64 (opK q) :: ((nums .u8 ((opB q).map bv)) ++ ([Value.slice oa30 ((opS q).length) nc31]))) 18 rfl rfl (all1 rfl (allA (nums_one _ _) (all1 rfl rfl))) (by kernel_rfl) (by simp [(opB_len hq), List.length_map, nums_length]) (by simp [(opB_len hq), List.length_map, nums_length, zK_len]) (lay_all _ _ (by simp [(opB_len hq), List.length_map, nums_length, zK_len])) ?_
    clear HS
    intro w36 HS
    refine p_run _ (x_assign (.int .i64 (opE q)) rfl rfl) rfl ?_
    refine wpList_nil ?_
    refine hK27 _ _ ?_
    refine wp_seq_k (fun K37 hK38 => ?_)
    refine c_region (fun ops40 hops39 => ?_)
    refine p_run _ (x_loads (Value.int .i64 (opK q) :: ((nums .u8 ((opB q).map bv)) ++ ([Value.slice oa19 ((opS q).length) nc20]))) 18 rfl rfl (bkCells (HS.get (.tail _ (.tail _ (.head _)))) 0 _ (whole _)) (by rfl) (by kernel_rfl) (by simp [(opB_len hq), List.length_map, nums_length])) rfl ?_
    refine p_run _ (x_loads (Value.int .i64 (opK q) :: ((nums .u8 ((opB q).map bv)) ++ ([Value.slice oa30 ((opS q).length) nc31]))) 18 rfl rfl (bkCells (HS.get (.head _)) 0 _ (whole _)) (by rfl) (by kernel_rfl) (by simp [(opB_len hq), List.length_map, nums_length])) rfl ?_
    refine w_call [.agg (Value.int .i64 (opK q) :: ((nums .u8 ((opB q).map bv)) ++ ([Value.slice oa19 ((opS q).length) nc20]))).toArray, .agg (Value.int .i64 (opK q) :: ((nums .u8 ((opB q).map bv)) ++ ([Value.slice oa30 ((opS q).length) nc31]))).toArray] Try.func27 (by kernel_rfl) (by rfl) rfl ?_
    refine (rsame8_any _ (opK q) (opB q) (opB_len hq) oa19 nc20 (opS q) (row_C (HS.get (.tail _ (.tail _ (.tail _ (.head _)))))).2.2 (opS_le q) oa30 nc31 (row_C (HS.get (.tail _ (.head _)))).2.2).mono ?_
    rintro e w41 ⟨rfl, hb_⟩
    replace HS := HS.here hb_
    clear hb_
    refine ⟨_, rfl, ?_⟩
    refine p_run _ (x_move (.bool true) rfl rfl) rfl ?_
    refine p_on rfl (by rw [hops39]; rfl) ?_
    refine p_run (l' := (.agg ((nums .u8 (q.map bv))).toArray :: .pointer (some ⟨g5, 0, none⟩) :: .bool false :: .pointer (some ⟨g22, 0, none⟩) :: .int .i64 (opE q) :: .pointer (some ⟨g33, 0, none⟩) :: .int .i64 (opE q) :: .bool true :: .bool false :: .tuple [.agg (Value.int .i64 (opK q) :: ((nums .u8 ((opB q).map bv)) ++ ([Value.slice oa19 ((opS q).length) nc20]))).toArray, .int .i64 (opE q)].toArray :: .agg ((nums .u8 (q.map bv))).toArray :: .tuple [.agg (Value.int .i64 (opK q) :: ((nums .u8 ((opB q).map bv)) ++ ([Value.slice oa19 ((opS q).length) nc20]))).toArray, .int .i64 (opE q)].toArray :: .agg (Value.int .i64 (opK q) :: ((nums .u8 ((opB q).map bv)) ++ ([Value.slice oa19 ((opS q).length) nc20]))).toArray :: .int .i64 (opE q) :: .tuple [.agg (Value.int .i64 (opK q) :: ((nums .u8 ((opB q).map bv)) ++ ([Value.slice oa30 ((opS q).length) nc31]))).toArray, .int .i64 (opE q)].toArray :: .agg ((nums .u8 (q.map bv))).toArray :: .tuple [.agg (Value.int .i64 (opK q) :: ((nums .u8 ((opB q).map bv)) ++ ([Value.slice oa30 ((opS q).length) nc31]))).toArray, .int .i64 (opE q)].toArray :: .agg (Value.int .i64 (opK q) :: ((nums .u8 ((opB q).map bv)) ++ ([Value.slice oa30 ((opS q).length) nc31]))).toArray :: .int .i64 (opE q) :: .agg (Value.int .i64 (opK q) :: ((nums .u8 ((opB q).map bv)) ++ ([Value.slice oa19 ((opS q).length) nc20]))).toArray :: .agg (Value.int .i64 (opK q) :: ((nums .u8 ((opB q).map bv)) ++ ([Value.slice oa30 ((opS q).length) nc31]))).toArray :: .bool true :: .bool true :: .int .i64 (opE q) :: undef :: undef :: undef :: [])) _ (x_move (.int .i64 (opE q)) rfl rfl) rfl ?_
    refine p_on rfl (by rw [hops39]; rfl) ?_
    refine p_run _ (x_move (.int .i64 (opE q)) rfl rfl) rfl ?_
    refine p_on rfl (by rw [hops39]; rfl) ?_
    refine p_run _ (x_cmp (k := .i64) (m := (opE q)) (n := (opE q)) .eql true rfl rfl rfl (cmp_yes rfl) rfl) rfl ?_
    refine p_run _ (x_pick true (.bool true) (.bool false) (.bool true) rfl rfl rfl rfl rfl) rfl ?_
    refine p_run _ (x_assign (.bool true) rfl rfl) rfl ?_
    clear hops39
    refine wpList_nil ?_
    refine hK38 _ _ ?_
    refine wp_ret ?_
    try simp only [Exit.inBlock, Exit.then]
    refine c_ret (.bool true) (r_tmp rfl rfl) ?_
    exact ⟨rfl, HS.belowOf⟩

theorem lopens_any (q : List UInt8) (w : World) (hq : q.length = 256) : Calls Try.prog 9 #[.agg ((nums .u8 (q.map bv))).toArray] w fun e w' => e = .returned (.bool true) ∧ Below w.heap.size w w' := lopens_law w q hq
end Go.Proofs.Ytiokdpnhaemciaa
