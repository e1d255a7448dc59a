/- DiskRuns. -/
import Derived.Test.YtjholgfaipfmbaaL4s
import Derived.Test.YtjholgfaipfmbaaArgsD
set_option linter.unusedVariables false
set_option linter.unusedSimpArgs false
namespace Go.Proofs.Ytjholgfaipfmbaa
open Go.RowKit Go.Proofs.YtjholgfaipfmbaaW.PrintWords Go.Proofs.YtjholgfaipfmbaaW.PrintLast
abbrev U4L4g (l : List Value) : List Value := undef :: undef :: undef :: undef :: l
abbrev U8L4g (l : List Value) : List Value := U4L4g (U4L4g l)
abbrev U16L4g (l : List Value) : List Value := U8L4g (U8L4g l)
abbrev U32L4g (l : List Value) : List Value := U16L4g (U16L4g l)
abbrev U64L4g (l : List Value) : List Value := U32L4g (U32L4g l)

structure V8 where
  a : Value
  b : Value
  c : Value
  d : Value
  e : Value
  f : Value
  g : Value
  h : Value
abbrev V8.l (q : V8) (t : List Value) : List Value := q.a :: q.b :: q.c :: q.d :: q.e :: q.f :: q.g :: q.h :: t
/-- What the document's functions ask. -/
structure RO (R : Rk) (n : Nat) : Prop where
  hT : ∀ p ∈ R.stable, p.length = 256
  hpd : ∀ x ∈ R.pending, 0 ≤ x.1 ∧ x.1 < R.stable.length ∧ x.2.length = 256
  hpn : R.pending.length ≤ n
  hsl : R.stable.length ≤ 244
  hl : R.counted = true → 0 ≤ R.left ∧ R.left < 9223372036854775808
  hb : R.bad.length = R.stable.length
theorem rd_ok {S : Dk} {R : Rk} {n : Nat} (h : RD S R) (hg : S.good n) : RO R n := by
  refine ⟨?_, ?_, ?_, ?_, fun hc => ?_, ?_⟩
  · rw [h.st]; exact hg.ok.1
  · rw [h.pd, h.st]; exact hg.ok.2.2.2.2
  · rw [h.pd]; exact hg.pn
  · rw [h.st]; exact hg.ok.2.1
  · rw [h.lf hc]
    have h1 := hc
    rw [h.ct] at h1
    exact ⟨of_decide_eq_true h1, hg.ok.2.2.2.1⟩
  · rw [h.bl, h.st]
theorem rcell_below {w w1 : World} (hb : Below w.heap.size w w1) {a : Addr} {v : Value} (h : w.cell? a = some v) : w1.cell? a = some v := by
  have hlt : a.block < w.heap.size := by
    rcases Nat.lt_or_ge a.block w.heap.size with h' | h'
    · exact h'
    · rw [World.cell?, Array.getElem?_eq_none h'] at h; cases h
  rw [← h]
  exact World.cell?_of_block (hb.block _ hlt)
section
variable {w0 W : World} {F : Nat → Prop} {L : List Res} {v vp : Value} {l l2 : List (Int × List Int)} {S : Dk} {R : Rk}
theorem dsame2 (hp : l2 = l) (HS : St w0 F W (row (Kd.int .i64) rfl 3 v (l.map (·.1)) :: row kWr rfl 74 vp l2 :: L)) (hl : l.length ≤ 1000) : Calls Try.prog 29 #[v, vp] W fun e w' => e = .returned (.bool true) ∧ St w0 F w' (row (Kd.int .i64) rfl 3 v (l.map (·.1)) :: row kWr rfl 74 vp l2 :: L) := by
  subst hp
  exact dsame_any HS hl
theorem pg_cell {w : World} {ad : Addr} {n c e k : Nat} {x : List Int} {xs : List (List Int)} {hE : kPg.E = []} (h : (row kPg hE e (.slice (some ad) n c) xs).holds w) (hx : xs[k]? = some x) : ∀ j v, (nums .u8 x)[j]? = some v → w.cell? ((ad.add (k * 256)).add j) = some v := by
  obtain ⟨a', y, e, hy, -, hc⟩ := pg_get (row_C h).2.2 k (List.getElem?_eq_some_iff.1 hx).1
  obtain rfl := Option.some.inj e
  obtain rfl := Option.some.inj (hy.symm.trans hx)
  exact hc
theorem rdkd_split (kd : Int) : kd = 0 ∨ kd = 1 ∨ kd = 2 ∨ kd = 3 ∨ kd = 4 ∨ kd = 5 ∨ (kd ≠ 0 ∧ kd ≠ 1 ∧ kd ≠ 2 ∧ kd ≠ 3 ∧ kd ≠ 4 ∧ kd ≠ 5) := by omega
theorem rdp_yes {k : Nat} {p : List Int} (h : RD S R) (hx : R.stable[k]? = some p) : S.pageE (k : Int) = 0 ∧ S.stabP (k : Int) = p := by
  have hk := (List.getElem?_eq_some_iff.1 hx).1
  rw [h.st] at hx hk
  have ht : S.there (k : Int) = true := by unfold Dk.there; exact decide_eq_true ⟨by omega, by omega⟩
  refine ⟨if_pos ht, ?_⟩
  unfold Dk.stabP
  rw [if_pos ht]
  unfold Dk.at
  rw [Int.toNat_natCast, List.getD_eq_getElem?_getD, hx]
  rfl
theorem rdp_no : S.pageE (S.stable.length : Int) = 41 := if_neg (by unfold Dk.there; rw [decide_eq_false (by omega)]; decide)
end

abbrev PR_ (pages : Int) (ad : Addr) (l1 : List dAT) (c1 D22 : Nat) (v31 v32 : Value) (t : List Value) : List Value := undef :: undef :: undef :: undef :: undef :: .bool true :: .bool false :: .int .i64 pages :: .bool false :: .bool false :: .slice (some ad) l1.length c1 :: .int .i64 (l1.length : Int) :: .bool false :: .bool false :: .int .i64 pages :: .pointer (some ⟨D22, 0, none⟩) :: .int .i64 pages :: rkV v31 v32 (.slice none 0 0) (Rk.new pages) :: .slice (some ad) l1.length c1 :: .int .i64 (l1.length : Int) :: t
set_option maxRecDepth 10000 in
set_option maxHeartbeats 40000000 in
theorem druns_law (w : World) (pages : Int) (A1 : Option Addr) (c1 : Nat) (l1 : List dAT) (hr1 : kdA.C w A1 l1.length l1) (hg1 : ∀ y ∈ l1, dAG y) : Calls Try.prog 8 #[.int .i64 pages, .slice A1 l1.length c1] w fun e w' => e = .returned (.bool true) ∧ Below w.heap.size w w' := by
  have HS := St.empty w
  · skip
    by_cases h0 : pages > 300
    · skip
      have h0d := decide_eq_true h0
      refine c_enter Try.func8 rfl 193 rfl (.int .i64 pages :: .slice A1 l1.length c1 :: U64L4g (U64L4g (U32L4g (U16L4g (U8L4g (U4L4g (undef :: undef :: undef :: []))))))) rfl ?_
      refine wp_seq_k (fun K1 hK2 => ?_)
      refine c_region (fun ops4 hops3 => ?_)
      clear hops3
      refine p_run (l' := _) _ (x_assign (.bool false) rfl rfl) rfl ?_
      refine wpList_nil ?_
      refine hK2 _ _ ?_
      refine wp_seq_k (fun K5 hK6 => ?_)
      refine wp_seq_k (fun K7 hK8 => ?_)
      refine c_region (fun ops10 hops9 => ?_)
      clear hops9
      refine w_call [] Try.func9 (by kernel_rfl) (by rfl) rfl ?_
      refine (alive_any HS).mono ?_
      clear HS
      rintro e w11 ⟨rfl, HS⟩
      refine ⟨_, rfl, ?_⟩
      refine p_run (l' := _) _ (x_not true rfl rfl) rfl ?_
      refine wpList_nil ?_
      refine hK8 _ _ ?_
      refine c_false rfl ?_
      refine wp_skip ?_
      refine hK6 _ _ ?_
      refine wp_seq_k (fun K12 hK13 => ?_)
      refine wp_seq_k (fun K14 hK15 => ?_)
      refine c_region (fun ops17 hops16 => ?_)
      refine p_run (l' := _) _ (x_move (.int .i64 pages) rfl rfl) rfl ?_
      refine p_run (l' := _) _ (x_cmp (k := .i64) (m := pages) (n := 300) .gtr true rfl rfl rfl h0d rfl) rfl ?_
      refine p_run (l' := _) _ (x_move (.bool true) rfl rfl) rfl ?_
      refine p_off (l' := (.int .i64 pages :: .slice A1 l1.length c1 :: undef :: undef :: .bool false :: U8L4g (U4L4g (undef :: undef :: undef :: .bool true :: .bool false :: .int .i64 pages :: .bool true :: .bool true :: U64L4g (U64L4g (U32L4g (U8L4g ([])))))))) (by rw [hops16]; rfl) rfl ?_
      refine p_off (l' := _) (by rw [hops16]; rfl) rfl ?_
      refine p_off (l' := _) (by rw [hops16]; rfl) rfl ?_
      refine p_run (l' := _) _ (x_pick true (.bool true) (undef) (.bool true) rfl rfl rfl rfl rfl) rfl ?_
      clear hops16
      refine wpList_nil ?_
      refine hK15 _ _ ?_
      refine c_true rfl ?_
      refine wp_seq_k (fun K18 hK19 => ?_)
      refine c_region (fun ops21 hops20 => ?_)
      clear hops20
      refine p_run (l' := _) _ (x_assign (.bool true) rfl rfl) rfl ?_
      refine wpList_nil ?_
      refine hK19 _ _ ?_
      refine wp_ret ?_
      try simp only [Exit.inBlock, Exit.then]
      refine c_ret (.bool true) (r_tmp rfl rfl) ?_
      exact ⟨rfl, HS.belowOf⟩
    · skip
      have h0d := decide_eq_false h0
      by_cases h1 : (l1.length : Int) > 80
      · skip
        have h1d := decide_eq_true h1
        refine c_enter Try.func8 rfl 193 rfl (.int .i64 pages :: .slice A1 l1.length c1 :: U64L4g (U64L4g (U32L4g (U16L4g (U8L4g (U4L4g (undef :: undef :: undef :: []))))))) rfl ?_
        refine wp_seq_k (fun K1 hK2 => ?_)
        refine c_region (fun ops4 hops3 => ?_)
        clear hops3
        refine p_run (l' := _) _ (x_assign (.bool false) rfl rfl) rfl ?_
        refine wpList_nil ?_
        refine hK2 _ _ ?_
        refine wp_seq_k (fun K5 hK6 => ?_)
        refine wp_seq_k (fun K7 hK8 => ?_)
        refine c_region (fun ops10 hops9 => ?_)
        clear hops9
        refine w_call [] Try.func9 (by kernel_rfl) (by rfl) rfl ?_
        refine (alive_any HS).mono ?_
        clear HS
        rintro e w11 ⟨rfl, HS⟩
        refine ⟨_, rfl, ?_⟩
        refine p_run (l' := _) _ (x_not true rfl rfl) rfl ?_
        refine wpList_nil ?_
        refine hK8 _ _ ?_
        refine c_false rfl ?_
        refine wp_skip ?_
        refine hK6 _ _ ?_
        refine wp_seq_k (fun K12 hK13 => ?_)
        refine wp_seq_k (fun K14 hK15 => ?_)
        refine c_region (fun ops17 hops16 => ?_)
        refine p_run (l' := _) _ (x_move (.int .i64 pages) rfl rfl) rfl ?_
        refine p_run (l' := _) _ (x_cmp (k := .i64) (m := pages) (n := 300) .gtr false rfl rfl rfl h0d rfl) rfl ?_
        refine p_run (l' := _) _ (x_move (.bool false) rfl rfl) rfl ?_
        refine p_on rfl (by rw [hops16]; rfl) ?_
        refine p_run (l' := (.int .i64 pages :: .slice A1 l1.length c1 :: undef :: undef :: .bool false :: U8L4g (U4L4g (undef :: undef :: undef :: .bool true :: .bool false :: .int .i64 pages :: .bool false :: .bool false :: .slice A1 l1.length c1 :: U64L4g (U64L4g (U32L4g (U4L4g (undef :: undef :: undef :: [])))))))) _ (x_move (.slice A1 l1.length c1) rfl rfl) rfl ?_
        refine p_on rfl (by rw [hops16]; rfl) ?_
        refine p_run (l' := _) _ (x_len rfl rfl Try.underlying35) rfl ?_
        refine p_on rfl (by rw [hops16]; rfl) ?_
        refine p_run (l' := _) _ (x_cmp (k := .i64) (m := (l1.length : Int)) (n := 80) .gtr true rfl rfl rfl h1d rfl) rfl ?_
        refine p_run (l' := _) _ (x_pick false (.bool true) (.bool true) (.bool true) rfl rfl rfl rfl rfl) rfl ?_
        clear hops16
        refine wpList_nil ?_
        refine hK15 _ _ ?_
        refine c_true rfl ?_
        refine wp_seq_k (fun K18 hK19 => ?_)
        refine c_region (fun ops21 hops20 => ?_)
        clear hops20
        refine p_run (l' := _) _ (x_assign (.bool true) rfl rfl) rfl ?_
        refine wpList_nil ?_
        refine hK19 _ _ ?_
        refine wp_ret ?_
        try simp only [Exit.inBlock, Exit.then]
        refine c_ret (.bool true) (r_tmp rfl rfl) ?_
        exact ⟨rfl, HS.belowOf⟩
      · skip
        have h1d := decide_eq_false h1
        · skip
          refine c_enter Try.func8 rfl 193 rfl (.int .i64 pages :: .slice A1 l1.length c1 :: U64L4g (U64L4g (U32L4g (U16L4g (U8L4g (U4L4g (undef :: undef :: undef :: []))))))) rfl ?_
          refine wp_seq_k (fun K1 hK2 => ?_)
          refine c_region (fun ops4 hops3 => ?_)
          clear hops3
          refine p_run (l' := _) _ (x_assign (.bool false) rfl rfl) rfl ?_
          refine wpList_nil ?_
          refine hK2 _ _ ?_
          refine wp_seq_k (fun K5 hK6 => ?_)
          refine wp_seq_k (fun K7 hK8 => ?_)
          refine c_region (fun ops10 hops9 => ?_)
          clear hops9
          refine w_call [] Try.func9 (by kernel_rfl) (by rfl) rfl ?_
          refine (alive_any HS).mono ?_
          clear HS
          rintro e w11 ⟨rfl, HS⟩
          refine ⟨_, rfl, ?_⟩
          refine p_run (l' := _) _ (x_not true rfl rfl) rfl ?_
          refine wpList_nil ?_
          refine hK8 _ _ ?_
          refine c_false rfl ?_
          refine wp_skip ?_
          refine hK6 _ _ ?_
          refine wp_seq_k (fun K12 hK13 => ?_)
          refine wp_seq_k (fun K14 hK15 => ?_)
          refine c_region (fun ops17 hops16 => ?_)
          refine p_run (l' := _) _ (x_move (.int .i64 pages) rfl rfl) rfl ?_
          refine p_run (l' := _) _ (x_cmp (k := .i64) (m := pages) (n := 300) .gtr false rfl rfl rfl h0d rfl) rfl ?_
          refine p_run (l' := _) _ (x_move (.bool false) rfl rfl) rfl ?_
          refine p_on rfl (by rw [hops16]; rfl) ?_
          refine p_run (l' := (.int .i64 pages :: .slice A1 l1.length c1 :: undef :: undef :: .bool false :: U8L4g (U4L4g (undef :: undef :: undef :: .bool true :: .bool false :: .int .i64 pages :: .bool false :: .bool false :: .slice A1 l1.length c1 :: U64L4g (U64L4g (U32L4g (U4L4g (undef :: undef :: undef :: [])))))))) _ (x_move (.slice A1 l1.length c1) rfl rfl) rfl ?_
          refine p_on rfl (by rw [hops16]; rfl) ?_
          refine p_run (l' := _) _ (x_len rfl rfl Try.underlying35) rfl ?_
          refine p_on rfl (by rw [hops16]; rfl) ?_
          refine p_run (l' := _) _ (x_cmp (k := .i64) (m := (l1.length : Int)) (n := 80) .gtr false rfl rfl rfl h1d rfl) rfl ?_
          refine p_run (l' := _) _ (x_pick false (.bool true) (.bool false) (.bool false) rfl rfl rfl rfl rfl) rfl ?_
          clear hops16
          refine wpList_nil ?_
          refine hK15 _ _ ?_
          refine c_false rfl ?_
          refine wp_skip ?_
          refine hK13 _ _ ?_
          refine wp_seq_k (fun K18 hK19 => ?_)
          refine c_region (fun ops21 hops20 => ?_)
          clear hops20
          refine p_run (l' := _) _ (x_move (.int .i64 pages) rfl rfl) rfl ?_
          refine w_call [.int .i64 pages] Try.func10 (by kernel_rfl) (by rfl) rfl ?_
          refine (new_any HS pages).mono ?_
          clear HS
          rintro e w25 ⟨D22, gs23, gm24, rfl, HS⟩
          have hgd26 := good_new pages
          refine ⟨_, rfl, ?_⟩
          refine p_run (l' := _) _ (x_assign (.pointer (some ⟨D22, 0, none⟩)) rfl rfl) rfl ?_
          refine wpList_nil ?_
          refine fr_at (l' := (.int .i64 pages :: .slice A1 l1.length c1 :: undef :: undef :: .bool false :: .pointer (some ⟨D22, 0, none⟩) :: U8L4g (U4L4g (undef :: undef :: .bool true :: .bool false :: .int .i64 pages :: .bool false :: .bool false :: .slice A1 l1.length c1 :: .int .i64 (l1.length : Int) :: .bool false :: .bool false :: .int .i64 pages :: .pointer (some ⟨D22, 0, none⟩) :: U64L4g (U64L4g (U32L4g (undef :: undef :: []))))))) rfl ?_
          refine hK19 _ _ ?_
          refine wp_seq_k (fun K27 hK28 => ?_)
          refine c_region (fun ops30 hops29 => ?_)
          clear hops29
          refine p_run (l' := _) _ (x_move (.int .i64 pages) rfl rfl) rfl ?_
          refine w_call [.int .i64 pages] Try.func22 (by kernel_rfl) (by rfl) rfl ?_
          refine (rkNew_any HS pages).mono ?_
          clear HS
          rintro e w33 ⟨v31, v32, rfl, HS⟩
          refine ⟨_, rfl, ?_⟩
          refine St.wAlloc HS (cs := [.slice none 0 0, .slice none 0 0, .slice none 0 0, .bool false, .int .i64 0, .bool false]) (.agg [.slice none 0 0, .slice none 0 0, .slice none 0 0, .bool false, .int .i64 0, .bool false].toArray) (by kernel_rfl) rfl ?_
          clear HS
          intro g34 w35 hg36 HS
          refine St.stores (cs' := [v31, v32, .slice none 0 0, .bool ((Rk.new pages).counted), .int .i64 ((Rk.new pages).left), .bool ((Rk.new pages).down)]) HS [v31, v32, .slice none 0 0, .bool ((Rk.new pages).counted), .int .i64 ((Rk.new pages).left), .bool ((Rk.new pages).down)] 6 rfl rfl (all1 (row_one (HS.get (.tail _ (.head _)))) (all1 (row_one (HS.get (.tail _ (.tail _ (.head _))))) (all1 rfl (all1 rfl (all1 rfl (all1 rfl rfl)))))) (by kernel_rfl) rfl (by simp) rfl ?_
          clear HS
          intro w37 HS
          refine wpList_nil ?_
          refine hK28 _ _ ?_
          refine wp_seq_k (fun K38 hK39 => ?_)
          refine wp_seq_k (fun K40 hK41 => ?_)
          refine c_region (fun ops43 hops42 => ?_)
          clear hops42
          refine p_run (l' := _) _ (x_move (.slice A1 l1.length c1) rfl rfl) rfl ?_
          refine p_run (l' := _) _ (x_len rfl rfl Try.underlying35) rfl ?_
          refine p_run (l' := _) _ (x_move (.int .i64 0) rfl rfl) rfl ?_
          refine wpList_nil ?_
          refine fr_at (l' := (.int .i64 pages :: .slice A1 l1.length c1 :: undef :: undef :: .bool false :: .pointer (some ⟨D22, 0, none⟩) :: .pointer (some ⟨g34, 0, none⟩) :: U8L4g (U4L4g (undef :: .bool true :: .bool false :: .int .i64 pages :: .bool false :: .bool false :: .slice A1 l1.length c1 :: .int .i64 (l1.length : Int) :: .bool false :: .bool false :: .int .i64 pages :: .pointer (some ⟨D22, 0, none⟩) :: .int .i64 pages :: rkV v31 v32 (.slice none 0 0) (Rk.new pages) :: .slice A1 l1.length c1 :: .int .i64 (l1.length : Int) :: .int .i64 0 :: U64L4g (U64L4g (U16L4g (U8L4g (U4L4g (undef :: []))))))))) rfl ?_
          refine hK41 _ _ ?_
          refine wp_block ?_
          refine c_loop (ι := Nat × Dk × Rk × Value × Value × Value × Value) (fun i_ a_ w_ => match i_ with | (i, S, R, v, vs, vb, vp) => ∃ (q44 : V8) (q45 : V8) (q46 : V8) (q47 : V8) (q48 : V8) (q49 : V8) (q50 : V8) (q51 : V8) (q52 : V8) (q53 : V8) (q54 : V8) (q55 : V8) (q56 : V8) (q57 : V8) (q58 : V8) (q59 : V8), a_ = fr (.int .i64 pages :: .slice A1 l1.length c1 :: undef :: undef :: q44.a :: .pointer (some ⟨D22, 0, none⟩) :: .pointer (some ⟨g34, 0, none⟩) :: undef :: q44.b :: q44.c :: q44.d :: q44.e :: q44.f :: q44.g :: q44.h :: U4L4g (undef :: .bool true :: .bool false :: .int .i64 pages :: .bool false :: .bool false :: .slice A1 l1.length c1 :: .int .i64 (l1.length : Int) :: .bool false :: .bool false :: .int .i64 pages :: .pointer (some ⟨D22, 0, none⟩) :: .int .i64 pages :: rkV v31 v32 (.slice none 0 0) (Rk.new pages) :: .slice A1 l1.length c1 :: .int .i64 (l1.length : Int) :: .int .i64 (i : Int) :: V8.l q45 (V8.l q46 (V8.l q47 (V8.l q48 (V8.l q49 (V8.l q50 (V8.l q51 (V8.l q52 (V8.l q53 (V8.l q54 (V8.l q55 (V8.l q56 (V8.l q57 (V8.l q58 (q59.a :: q59.b :: q59.c :: q59.d :: U32L4g (U8L4g (undef :: [])))))))))))))))))) ∧ St w (fun _ => False) w_ ([blk D22 (dskC gs23 gm24 v S) 66, blk gs23 (pgs S.stable) 31, mapR gm24 S.cnt S.bad, row kWr rfl 71 v S.pending, row kPg rfl 31 vs R.stable, row Kd.bool rfl 4 vb R.bad, row kWr rfl 74 vp R.pending, blk g34 [vs, vb, vp, .bool R.counted, .int .i64 R.left, .bool R.down] 51]) ∧ (RD S R ∧ S.good i ∧ i ≤ l1.length)) (fun i_ => match i_ with | (i, S, R, v, vs, vb, vp) => l1.length - i) (0, (Dk.new pages), (Rk.new pages), .slice none 0 0, v31, v32, .slice none 0 0) ?_ ?_
          · exact ⟨⟨.bool false, undef, undef, undef, undef, undef, undef, undef⟩, ⟨undef, undef, undef, undef, undef, undef, undef, undef⟩, ⟨undef, undef, undef, undef, undef, undef, undef, undef⟩, ⟨undef, undef, undef, undef, undef, undef, undef, undef⟩, ⟨undef, undef, undef, undef, undef, undef, undef, undef⟩, ⟨undef, undef, undef, undef, undef, undef, undef, undef⟩, ⟨undef, undef, undef, undef, undef, undef, undef, undef⟩, ⟨undef, undef, undef, undef, undef, undef, undef, undef⟩, ⟨undef, undef, undef, undef, undef, undef, undef, undef⟩, ⟨undef, undef, undef, undef, undef, undef, undef, undef⟩, ⟨undef, undef, undef, undef, undef, undef, undef, undef⟩, ⟨undef, undef, undef, undef, undef, undef, undef, undef⟩, ⟨undef, undef, undef, undef, undef, undef, undef, undef⟩, ⟨undef, undef, undef, undef, undef, undef, undef, undef⟩, ⟨undef, undef, undef, undef, undef, undef, undef, undef⟩, ⟨undef, undef, undef, undef, undef, undef, undef, undef⟩, rfl, (((((((HS.front 3 rfl).front 3 rfl).front 3 rfl).front 7 rfl).front 7 rfl).front 7 rfl).front 7 rfl), ⟨rd_new pages, good_new pages, Nat.zero_le _⟩⟩
          · clear HS
            rintro ⟨i, S, R, v, vs, vb, vp⟩ a_ w62 ⟨q44, q45, q46, q47, q48, q49, q50, q51, q52, q53, q54, q55, q56, q57, q58, q59, rfl, HS, hI⟩ J60 hJ61
            obtain ⟨hRD, hG, hil⟩ := hI
            refine wp_seq_k (fun K63 hK64 => ?_)
            refine c_region (fun ops66 hops65 => ?_)
            clear hops65
            refine p_run (l' := _) _ (x_cmp (k := .i64) (m := (i : Int)) (n := (l1.length : Int)) .lss (decide ((i : Int) < (l1.length : Int))) rfl rfl rfl rfl rfl) rfl ?_
            refine wpList_nil ?_
            refine hK64 _ _ ?_
            refine wp_seq_k (fun K67 hK68 => ?_)
            refine c_cond (t := decide ((i : Int) < (l1.length : Int))) rfl (fun hc69 => ?_) (fun hc69 => ?_)
            · have hlt : i < l1.length := by have := of_decide_eq_true hc69; omega
              have hRO := rd_ok hRD hG
              obtain ⟨ad, ⟨kd, aa, bb, kp⟩, A3, c3, rfl, hy, hl3, hC3, hcell0⟩ := dA_get hr1 i hlt
              have haa : -9223372036854775808 ≤ aa ∧ aa ≤ 9223372036854775807 := (hg1 _ (List.mem_of_getElem? hy)).2.1
              have hkp : ∀ z ∈ kp, 0 ≤ z ∧ z < 256 := (hg1 _ (List.mem_of_getElem? hy)).2.2.2.1
              have hcell := fun (j : Nat) (u : Value) (h : ([.int .i64 kd, .int .i64 aa, .int .u8 bb, .slice A3 kp.length c3] : List Value)[j]? = some u) => rcell_below HS.belowOf (hcell0 j u h)
              refine wp_skip ?_
              refine hK68 _ _ ?_
              refine wp_seq_k (fun K70 hK71 => ?_)
              refine wp_block ?_
              refine wp_seq_k (fun K72 hK73 => ?_)
              refine c_region (fun ops75 hops74 => ?_)
              clear hops74
              refine p_run (l' := _) _ (x_index (A := ad) (j := i * 4) (sz := 4) rfl rfl rfl Try.underlying35 (by kernel_rfl) (by omega) rfl) rfl ?_
              refine p_run (l' := _) _ (x_loads [.int .i64 kd, .int .i64 aa, .int .u8 bb, .slice A3 kp.length c3] 4 rfl rfl hcell (by rfl) (by kernel_rfl) rfl) rfl ?_
              refine St.wAlloc HS (cs := [.int .i64 0, .int .i64 0, .int .u8 0, .slice none 0 0]) (.agg [.int .i64 0, .int .i64 0, .int .u8 0, .slice none 0 0].toArray) (by kernel_rfl) rfl ?_
              clear HS
              intro g76 w77 hg78 HS
              refine St.stores (cs' := [.int .i64 kd, .int .i64 aa, .int .u8 bb, .slice A3 kp.length c3]) HS [.int .i64 kd, .int .i64 aa, .int .u8 bb, .slice A3 kp.length c3] 4 rfl rfl (by rfl) (by kernel_rfl) rfl (by simp) rfl ?_
              clear HS
              intro w79 HS
              refine wpList_nil ?_
              refine hK73 _ _ ?_
              refine wp_seq_k (fun K80 hK81 => ?_)
              refine c_region (fun ops83 hops82 => ?_)
              clear hops82
              refine p_run (l' := _) _ (x_assign (.int .i64 0) rfl rfl) rfl ?_
              refine p_run (l' := _) _ (x_assign (.int .i64 0) rfl rfl) rfl ?_
              refine wpList_nil ?_
              refine fr_at (l' := (.int .i64 pages :: .slice (some ad) l1.length c1 :: undef :: undef :: q44.a :: .pointer (some ⟨D22, 0, none⟩) :: .pointer (some ⟨g34, 0, none⟩) :: undef :: .pointer (some ⟨g76, 0, none⟩) :: .int .i64 0 :: .int .i64 0 :: q44.e :: q44.f :: q44.g :: q44.h :: PR_ pages ad l1 c1 D22 v31 v32 (.int .i64 (i : Int) :: .bool (decide ((i : Int) < (l1.length : Int))) :: .pointer (some ((ad).add (i * 4))) :: .agg ([.int .i64 kd, .int .i64 aa, .int .u8 bb, .slice A3 kp.length c3] : List Value).toArray :: q45.d :: q45.e :: q45.f :: q45.g :: q45.h :: V8.l q46 (V8.l q47 (V8.l q48 (V8.l q49 (V8.l q50 (V8.l q51 (V8.l q52 (V8.l q53 (V8.l q54 (V8.l q55 (V8.l q56 (V8.l q57 (V8.l q58 (q59.a :: q59.b :: q59.c :: q59.d :: U32L4g (U8L4g (undef :: [])))))))))))))))))) rfl ?_
              refine hK81 _ _ ?_
              refine wp_seq_k (fun K84 hK85 => ?_)
              have hT86 : ∀ (S' : Dk) (R' : Rk) (v' : Value) (vs' : Value) (vb' : Value) (vp' : Value) (e_ : Int) (q87 : V8) (q88 : V8) (q89 : V8) (q90 : V8) (q91 : V8) (q92 : V8) (q93 : V8) (q94 : V8) (q95 : V8) (w96 : World), St w (fun _ => False) w96 ([blk D22 (dskC gs23 gm24 v' S') 66, blk gs23 (pgs S'.stable) 31, mapR gm24 S'.cnt S'.bad, row kWr rfl 71 v' S'.pending, row kPg rfl 31 vs' R'.stable, row Kd.bool rfl 4 vb' R'.bad, row kWr rfl 74 vp' R'.pending, blk g34 [vs', vb', vp', .bool R'.counted, .int .i64 R'.left, .bool R'.down] 51, blk g76 [.int .i64 kd, .int .i64 aa, .int .u8 bb, .slice A3 kp.length c3] 38]) → (RD S' R' ∧ S'.good (i + 1)) → K84 (fr (.int .i64 pages :: .slice (some ad) l1.length c1 :: undef :: undef :: q44.a :: .pointer (some ⟨D22, 0, none⟩) :: .pointer (some ⟨g34, 0, none⟩) :: undef :: .pointer (some ⟨g76, 0, none⟩) :: .int .i64 e_ :: .int .i64 e_ :: q44.e :: q44.f :: q44.g :: q44.h :: PR_ pages ad l1 c1 D22 v31 v32 (.int .i64 (i : Int) :: .bool (decide ((i : Int) < (l1.length : Int))) :: .pointer (some ((ad).add (i * 4))) :: .agg ([.int .i64 kd, .int .i64 aa, .int .u8 bb, .slice A3 kp.length c3] : List Value).toArray :: V8.l q87 (V8.l q88 (V8.l q89 (V8.l q90 (V8.l q91 (V8.l q92 (V8.l q93 (V8.l q94 (q95.a :: q95.b :: q95.c :: q95.d :: q95.e :: q95.f :: q54.b :: q54.c :: q54.d :: q54.e :: q54.f :: q54.g :: q54.h :: V8.l q55 (V8.l q56 (V8.l q57 (V8.l q58 (q59.a :: q59.b :: q59.c :: q59.d :: U32L4g (U8L4g (undef :: []))))))))))))))))) w96 := by
                clear HS
                intro S' R' v' vs' vb' vp' e_ q87 q88 q89 q90 q91 q92 q93 q94 q95 w96 HS hJ
                refine hK85 _ _ ?_
                obtain ⟨hRD2, hG2⟩ := hJ
                have hRO2 := rd_ok hRD2 hG2
                refine wp_seq_k (fun K97 hK98 => ?_)
                refine c_region (fun ops100 hops99 => ?_)
                clear hops99
                refine p_run (l' := _) _ (x_move (.pointer (some ⟨D22, 0, none⟩)) rfl rfl) rfl ?_
                refine p_run (l' := _) _ (x_field (j := 1) _ _ rfl rfl Try.underlying38 rfl (by rfl) rfl) rfl ?_
                refine p_run (l' := _) _ (x_load (.int .i64 aa) rfl rfl (bkCell (HS.get (.tail _ (.tail _ (.tail _ (.tail _ (.tail _ (.tail _ (.tail _ (.tail _ (.head _)))))))))) 1 _ rfl) (by rfl)) rfl ?_
                refine w_call [.pointer (some ⟨D22, 0, none⟩), .int .i64 aa] Try.func19 (by kernel_rfl) (by rfl) rfl ?_
                replace HS := ((((HS.front 3 rfl).front 3 rfl).front 3 rfl).front 3 rfl)
                refine (read_any HS hG2.ok (by have := hG2.pn; omega) aa).mono ?_
                clear HS
                rintro e w101 ⟨rfl, HS⟩
                refine ⟨_, rfl, ?_⟩
                refine p_run (l' := _) _ (x_move (.tuple [.agg ((nums .u8 (S'.readP aa))).toArray, .int .i64 (S'.readE aa)].toArray) rfl rfl) rfl ?_
                refine p_run (l' := _) _ (x_extract (vs := [.agg ((nums .u8 (S'.readP aa))).toArray, .int .i64 (S'.readE aa)]) 0 (.agg ((nums .u8 (S'.readP aa))).toArray) rfl rfl rfl) rfl ?_
                refine p_run (l' := (.int .i64 pages :: .slice (some ad) l1.length c1 :: undef :: undef :: q44.a :: .pointer (some ⟨D22, 0, none⟩) :: .pointer (some ⟨g34, 0, none⟩) :: undef :: .pointer (some ⟨g76, 0, none⟩) :: .int .i64 e_ :: .int .i64 e_ :: q44.e :: q44.f :: q44.g :: q44.h :: PR_ pages ad l1 c1 D22 v31 v32 (.int .i64 (i : Int) :: .bool (decide ((i : Int) < (l1.length : Int))) :: .pointer (some ((ad).add (i * 4))) :: .agg ([.int .i64 kd, .int .i64 aa, .int .u8 bb, .slice A3 kp.length c3] : List Value).toArray :: V8.l q87 (V8.l q88 (V8.l q89 (V8.l q90 (V8.l q91 (V8.l q92 (V8.l q93 (V8.l q94 (q95.a :: q95.b :: q95.c :: q95.d :: q95.e :: q95.f :: .tuple [.agg ((nums .u8 (S'.readP aa))).toArray, .int .i64 (S'.readE aa)].toArray :: .pointer (some ⟨D22, 0, none⟩) :: .pointer (some ⟨g76, 1, none⟩) :: .int .i64 aa :: .tuple [.agg ((nums .u8 (S'.readP aa))).toArray, .int .i64 (S'.readE aa)].toArray :: .agg ((nums .u8 (S'.readP aa))).toArray :: .int .i64 (S'.readE aa) :: V8.l q55 (V8.l q56 (V8.l q57 (V8.l q58 (q59.a :: q59.b :: q59.c :: q59.d :: U32L4g (U8L4g (undef :: []))))))))))))))))) _ (x_extract (vs := [.agg ((nums .u8 (S'.readP aa))).toArray, .int .i64 (S'.readE aa)]) 1 (.int .i64 (S'.readE aa)) rfl rfl rfl) rfl ?_
                refine St.wAlloc HS (cs := ((nums .u8 zpg))) (.agg ((nums .u8 zpg)).toArray) (by kernel_rfl) rfl ?_
                clear HS
                intro g102 w103 hg104 HS
                refine St.stores (cs' := ((nums .u8 (S'.readP aa)))) HS ((nums .u8 (S'.readP aa))) 256 rfl rfl (nums_one _ _) (by kernel_rfl) (by simp [nums_length, readP_len hG2.ok]) (by simp [nums_length, readP_len hG2.ok, zlen]) (lay_all _ _ (by simp [nums_length, readP_len hG2.ok, zlen])) ?_
                clear HS
                intro w105 HS
                refine p_run (l' := _) _ (x_assign (.int .i64 (S'.readE aa)) rfl rfl) rfl ?_
                refine wpList_nil ?_
                refine hK98 _ _ ?_
                refine wp_seq_k (fun K106 hK107 => ?_)
                refine c_region (fun ops109 hops108 => ?_)
                clear hops108
                refine p_run (l' := _) _ (x_loads [vs', vb', vp', .bool R'.counted, .int .i64 R'.left, .bool R'.down] 6 rfl rfl (bkCells (HS.get (.tail _ (.tail _ (.tail _ (.tail _ (.tail _ (.tail _ (.tail _ (.tail _ (.head _)))))))))) 0 _ rfl) (by rfl) (by kernel_rfl) rfl) rfl ?_
                refine p_run (l' := _) _ (x_field (j := 1) _ _ rfl rfl Try.underlying38 rfl (by rfl) rfl) rfl ?_
                refine p_run (l' := _) _ (x_load (.int .i64 aa) rfl rfl (bkCell (HS.get (.tail _ (.tail _ (.tail _ (.tail _ (.tail _ (.tail _ (.tail _ (.tail _ (.tail _ (.head _))))))))))) 1 _ rfl) (by rfl)) rfl ?_
                refine w_call [rkV vs' vb' vp' R', .int .i64 aa] Try.func28 (by kernel_rfl) (by rfl) rfl ?_
                replace HS := (((HS.front 7 rfl).front 7 rfl).front 7 rfl)
                refine (rkRead_any HS hRO2.hb hRO2.hT (Nat.le_trans hRO2.hpn (by omega)) aa).mono ?_
                clear HS
                rintro e w110 ⟨he_, HS⟩
                rw [(rd_read hRD2 aa).1, (rd_read hRD2 aa).2] at he_
                subst he_
                refine ⟨_, rfl, ?_⟩
                refine p_run (l' := (.int .i64 pages :: .slice (some ad) l1.length c1 :: undef :: undef :: q44.a :: .pointer (some ⟨D22, 0, none⟩) :: .pointer (some ⟨g34, 0, none⟩) :: undef :: .pointer (some ⟨g76, 0, none⟩) :: .int .i64 e_ :: .int .i64 e_ :: .pointer (some ⟨g102, 0, none⟩) :: .int .i64 (S'.readE aa) :: q44.g :: q44.h :: PR_ pages ad l1 c1 D22 v31 v32 (.int .i64 (i : Int) :: .bool (decide ((i : Int) < (l1.length : Int))) :: .pointer (some ((ad).add (i * 4))) :: .agg ([.int .i64 kd, .int .i64 aa, .int .u8 bb, .slice A3 kp.length c3] : List Value).toArray :: V8.l q87 (V8.l q88 (V8.l q89 (V8.l q90 (V8.l q91 (V8.l q92 (V8.l q93 (V8.l q94 (q95.a :: q95.b :: q95.c :: q95.d :: q95.e :: q95.f :: .tuple [.agg ((nums .u8 (S'.readP aa))).toArray, .int .i64 (S'.readE aa)].toArray :: .pointer (some ⟨D22, 0, none⟩) :: .pointer (some ⟨g76, 1, none⟩) :: .int .i64 aa :: .tuple [.agg ((nums .u8 (S'.readP aa))).toArray, .int .i64 (S'.readE aa)].toArray :: .agg ((nums .u8 (S'.readP aa))).toArray :: .int .i64 (S'.readE aa) :: .tuple [.agg ((nums .u8 (S'.readP aa))).toArray, .int .i64 (S'.readE aa)].toArray :: rkV vs' vb' vp' R' :: .pointer (some ⟨g76, 1, none⟩) :: .int .i64 aa :: .tuple [.agg ((nums .u8 (S'.readP aa))).toArray, .int .i64 (S'.readE aa)].toArray :: q55.f :: q55.g :: q55.h :: V8.l q56 (V8.l q57 (V8.l q58 (q59.a :: q59.b :: q59.c :: q59.d :: U32L4g (U8L4g (undef :: [])))))))))))))))) _ (x_move (.tuple [.agg ((nums .u8 (S'.readP aa))).toArray, .int .i64 (S'.readE aa)].toArray) rfl rfl) rfl ?_
                refine p_run (l' := _) _ (x_extract (vs := [.agg ((nums .u8 (S'.readP aa))).toArray, .int .i64 (S'.readE aa)]) 0 (.agg ((nums .u8 (S'.readP aa))).toArray) rfl rfl rfl) rfl ?_
                refine p_run (l' := _) _ (x_extract (vs := [.agg ((nums .u8 (S'.readP aa))).toArray, .int .i64 (S'.readE aa)]) 1 (.int .i64 (S'.readE aa)) rfl rfl rfl) rfl ?_
                refine St.wAlloc HS (cs := ((nums .u8 zpg))) (.agg ((nums .u8 zpg)).toArray) (by kernel_rfl) rfl ?_
                clear HS
                intro g111 w112 hg113 HS
                refine St.stores (cs' := ((nums .u8 (S'.readP aa)))) HS ((nums .u8 (S'.readP aa))) 256 rfl rfl (nums_one _ _) (by kernel_rfl) (by simp [nums_length, readP_len hG2.ok]) (by simp [nums_length, readP_len hG2.ok, zlen]) (lay_all _ _ (by simp [nums_length, readP_len hG2.ok, zlen])) ?_
                clear HS
                intro w114 HS
                refine p_run (l' := _) _ (x_assign (.int .i64 (S'.readE aa)) rfl rfl) rfl ?_
                refine wpList_nil ?_
                refine hK107 _ _ ?_
                refine wp_seq_k (fun K115 hK116 => ?_)
                refine free_frame (n := 28) (T := _) [0, 0, 3, 7, 15, 15, 63, 127, 255, 511, 511, 2047, 4095, 8191, 16383, 32767, 16383, 81919, 262143, 524287, 1048575, 2097151, 4194303, 2097151, 10485759, 33554431, 67108863, 134217727] [(0, 123), (1, 124), (2, 125), (3, 126), (4, 127), (5, 128), (6, 129), (7, 130), (8, 131), (9, 132), (10, 133), (11, 134), (12, 135), (13, 136), (14, 137), (15, 138), (16, 139), (17, 140), (18, 141), (19, 142), (20, 143), (21, 144), (22, 145), (23, 146), (24, 147), (25, 148), (26, 149), (27, 150)] (fun bq_ vq_ w_ => qv ((fun i_ => match i_ with | 0 => some (.int .i64 e_) | 1 => some (.int .i64 e_) | 2 => some (.bool false) | 3 => some (.bool false) | 4 => some (.agg ((nums .u8 (S'.readP aa))).toArray) | 5 => some (.agg ((nums .u8 (S'.readP aa))).toArray) | 6 => some (.bool false) | 7 => some (.bool false) | 8 => some (.bool false) | 9 => some (.int .i64 (S'.readE aa)) | 10 => some (.int .i64 (S'.readE aa)) | 11 => some (.bool false) | 12 => some (.bool false) | 13 => some (.bool false) | 14 => some (.pointer (some ⟨D22, 0, none⟩)) | 15 => some (.bool S'.down) | 16 => some (.pointer (some ⟨g34, 5, none⟩)) | 17 => some (.bool R'.down) | 18 => some (.bool false) | 19 => some (.bool false) | 20 => some (.bool false) | 21 => some (.pointer (some ⟨D22, 0, none⟩)) | 23 => some (.pointer (some ⟨g34, 2, none⟩)) | 24 => some (vp') | 26 => some (.bool false) | 27 => some (.bool false) | _ => none) : Nat → Option Value) bq_ vq_ ∧ cond (bq_ 25) (∃ (v119 : Value), vq_ 22 = v119 ∧ vq_ 25 = .bool true ∧ St w (fun _ => False) w_ ([row (Kd.int .i64) rfl 3 v119 (S'.pending.map (·.1)), row kWr rfl 74 vp' R'.pending, blk D22 (dskC gs23 gm24 v' S') 66, blk gs23 (pgs S'.stable) 31, mapR gm24 S'.cnt S'.bad, row kWr rfl 71 v' S'.pending, blk g111 ((nums .u8 (S'.readP aa))) 31, row kPg rfl 31 vs' R'.stable, row Kd.bool rfl 4 vb' R'.bad, blk g102 ((nums .u8 (S'.readP aa))) 31, blk g34 [vs', vb', vp', .bool R'.counted, .int .i64 R'.left, .bool R'.down] 51, blk g76 [.int .i64 kd, .int .i64 aa, .int .u8 bb, .slice A3 kp.length c3] 38])) (cond (bq_ 22) (∃ (v119 : Value), vq_ 22 = v119 ∧ St w (fun _ => False) w_ ([row (Kd.int .i64) rfl 3 v119 (S'.pending.map (·.1)), blk D22 (dskC gs23 gm24 v' S') 66, blk gs23 (pgs S'.stable) 31, mapR gm24 S'.cnt S'.bad, row kWr rfl 71 v' S'.pending, blk g111 ((nums .u8 (S'.readP aa))) 31, row kPg rfl 31 vs' R'.stable, row Kd.bool rfl 4 vb' R'.bad, row kWr rfl 74 vp' R'.pending, blk g102 ((nums .u8 (S'.readP aa))) 31, blk g34 [vs', vb', vp', .bool R'.counted, .int .i64 R'.left, .bool R'.down] 51, blk g76 [.int .i64 kd, .int .i64 aa, .int .u8 bb, .slice A3 kp.length c3] 38])) ((St w (fun _ => False) w_ ([blk g111 ((nums .u8 (S'.readP aa))) 31, row kPg rfl 31 vs' R'.stable, row Kd.bool rfl 4 vb' R'.bad, row kWr rfl 74 vp' R'.pending, blk g102 ((nums .u8 (S'.readP aa))) 31, blk D22 (dskC gs23 gm24 v' S') 66, blk gs23 (pgs S'.stable) 31, mapR gm24 S'.cnt S'.bad, row kWr rfl 71 v' S'.pending, blk g34 [vs', vb', vp', .bool R'.counted, .int .i64 R'.left, .bool R'.down] 51, blk g76 [.int .i64 kd, .int .i64 aa, .int .u8 bb, .slice A3 kp.length c3] 38]))))) (by kernel_rfl) rfl rfl (by kernel_rfl) (by kernel_rfl) rfl (by kernel_rfl) (by kernel_rfl) ⟨qv_none, HS.draw⟩ ?_ ?_
                · clear HS
                  intro i_ hi_ bq_ vq_ a_ w_ hG hb_ hon hoff hfr hel hval
                  obtain ⟨hV, hE⟩ := hG
                  have hi_ := List.mem_range.1 hi_
                  obtain ⟨l_, rfl⟩ := hfr
                  have hv_ := fun (j t : Nat) (v : Value) (h1 : (j, t) ∈ [(0, 123), (1, 124), (2, 125), (3, 126), (4, 127), (5, 128), (6, 129), (7, 130), (8, 131), (9, 132), (10, 133), (11, 134), (12, 135), (13, 136), (14, 137), (15, 138), (16, 139), (17, 140), (18, 141), (19, 142), (20, 143), (21, 144), (22, 145), (23, 146), (24, 147), (25, 148), (26, 149), (27, 150)]) h2 h3 => (hval (j, t) h1 h3).trans (congrArg some (hV j v h2 h3))
                  have hcs : i_ = 0 ∨ i_ = 1 ∨ i_ = 2 ∨ i_ = 3 ∨ i_ = 4 ∨ i_ = 5 ∨ i_ = 6 ∨ i_ = 7 ∨ i_ = 8 ∨ i_ = 9 ∨ i_ = 10 ∨ i_ = 11 ∨ i_ = 12 ∨ i_ = 13 ∨ i_ = 14 ∨ i_ = 15 ∨ i_ = 16 ∨ i_ = 17 ∨ i_ = 18 ∨ i_ = 19 ∨ i_ = 20 ∨ i_ = 21 ∨ i_ = 22 ∨ i_ = 23 ∨ i_ = 24 ∨ i_ = 25 ∨ i_ = 26 ∨ i_ = 27 := by omega
                  rcases hcs with rfl | rfl | rfl | rfl | rfl | rfl | rfl | rfl | rfl | rfl | rfl | rfl | rfl | rfl | rfl | rfl | rfl | rfl | rfl | rfl | rfl | rfl | rfl | rfl | rfl | rfl | rfl | rfl
                  · have e9 : evl l_ (.tmp 9) = .int .i64 e_ := evl_of ((hel 9 (by decide)).trans rfl)
                    exact ⟨_, rfl, fun K_ hK_ => q_op _ (x_move (.int .i64 e_) rfl e9) (hK_ _ _ ⟨qv_up hV (fun _ h => Option.some.inj h), hE⟩)⟩
                  · have e10 : evl l_ (.tmp 10) = .int .i64 e_ := evl_of ((hel 10 (by decide)).trans rfl)
                    exact ⟨_, rfl, fun K_ hK_ => q_op _ (x_move (.int .i64 e_) rfl e10) (hK_ _ _ ⟨qv_up hV (fun _ h => Option.some.inj h), hE⟩)⟩
                  · have e123 : evl l_ (.tmp 123) = .int .i64 e_ := evl_of (hv_ 0 123 _ (by decide) rfl (hon 0 (by decide)))
                    have e124 : evl l_ (.tmp 124) = .int .i64 e_ := evl_of (hv_ 1 124 _ (by decide) rfl (hon 1 (by decide)))
                    exact ⟨_, rfl, fun K_ hK_ => q_op _ (x_cmp (k := .i64) (m := e_) (n := e_) .neq false rfl e123 e124 (by unfold cmpB; simp) rfl) (hK_ _ _ ⟨qv_up hV (fun _ h => Option.some.inj h), hE⟩)⟩
                  · have e125 : evl l_ (.tmp 125) = .bool false := evl_of (hv_ 2 125 _ (by decide) rfl (hon 2 (by decide)))
                    exact ⟨_, rfl, fun K_ hK_ => q_op _ (x_move (.bool false) rfl e125) (hK_ _ _ ⟨qv_up hV (fun _ h => Option.some.inj h), hE⟩)⟩
                  · have h126 : (fr l_).tmps[126]? = some (.bool false) := hv_ 3 126 _ (by decide) rfl (hon 3 (by decide))
                    have hE0 := hE
                    rw [show bq_ 25 = false from (hoff 25 (by decide))] at hE0
                    rw [show bq_ 22 = false from (hoff 22 (by decide))] at hE0
                    simp only [cond_true, cond_false] at hE0
                    have HS := hE0
                    have e11 : evl l_ (.tmp 11) = .pointer (some ⟨g102, 0, none⟩) := evl_of ((hel 11 (by decide)).trans rfl)
                    have e126 : evl l_ (.tmp 126) = .bool false := evl_of h126
                    exact ⟨_, rfl, fun K_ hK_ => q_opG (wanted_on (t := 126) rfl rfl rfl h126) _ (x_loads ((nums .u8 (S'.readP aa))) 256 rfl e11 (bkCells (HS.get (.tail _ (.tail _ (.tail _ (.tail _ (.head _)))))) 0 _ (whole _)) (by rfl) (by kernel_rfl) (by simp [nums_length, readP_len hG2.ok])) (hK_ _ _ ⟨qv_up hV (fun _ h => Option.some.inj h), hE⟩)⟩
                  · have h126 : (fr l_).tmps[126]? = some (.bool false) := hv_ 3 126 _ (by decide) rfl (hon 3 (by decide))
                    have hE0 := hE
                    rw [show bq_ 25 = false from (hoff 25 (by decide))] at hE0
                    rw [show bq_ 22 = false from (hoff 22 (by decide))] at hE0
                    simp only [cond_true, cond_false] at hE0
                    have HS := hE0
                    have e13 : evl l_ (.tmp 13) = .pointer (some ⟨g111, 0, none⟩) := evl_of ((hel 13 (by decide)).trans rfl)
                    have e126 : evl l_ (.tmp 126) = .bool false := evl_of h126
                    exact ⟨_, rfl, fun K_ hK_ => q_opG (wanted_on (t := 126) rfl rfl rfl h126) _ (x_loads ((nums .u8 (S'.readP aa))) 256 rfl e13 (bkCells (HS.get (.head _)) 0 _ (whole _)) (by rfl) (by kernel_rfl) (by simp [nums_length, readP_len hG2.ok])) (hK_ _ _ ⟨qv_up hV (fun _ h => Option.some.inj h), hE⟩)⟩
                  · have h126 : (fr l_).tmps[126]? = some (.bool false) := hv_ 3 126 _ (by decide) rfl (hon 3 (by decide))
                    have e126 : evl l_ (.tmp 126) = .bool false := evl_of h126
                    have e127 : evl l_ (.tmp 127) = .agg ((nums .u8 (S'.readP aa))).toArray := evl_of (hv_ 4 127 _ (by decide) rfl (hon 4 (by decide)))
                    have e128 : evl l_ (.tmp 128) = .agg ((nums .u8 (S'.readP aa))).toArray := evl_of (hv_ 5 128 _ (by decide) rfl (hon 5 (by decide)))
                    exact ⟨_, rfl, fun K_ hK_ => q_opG (wanted_on (t := 126) rfl rfl rfl h126) _ (x_eq .neq (.agg ((nums .u8 (S'.readP aa))).toArray) (.agg ((nums .u8 (S'.readP aa))).toArray) (decide ((S'.readP aa) = (S'.readP aa))) false rfl e127 e128 (equal_nums Try.underlying31 Try.underlying5 (by kernel_rfl) (by kernel_rfl) _ _ (by simp [readP_len hG2.ok]) (by simp [readP_len hG2.ok])) (by simp [eqB]) rfl (guard_agg (by kernel_rfl)) (guard_agg (by kernel_rfl))) (hK_ _ _ ⟨qv_up hV (fun _ h => Option.some.inj h), hE⟩)⟩
                  · have e126 : evl l_ (.tmp 126) = .bool false := evl_of (hv_ 3 126 _ (by decide) rfl (hon 3 (by decide)))
                    have e129 : evl l_ (.tmp 129) = .bool false := evl_of (hv_ 6 129 _ (by decide) rfl (hon 6 (by decide)))
                    exact ⟨_, rfl, fun K_ hK_ => q_op _ (x_pick false (.bool true) (.bool false) (.bool false) rfl e126 rfl e129 rfl) (hK_ _ _ ⟨qv_up hV (fun _ h => Option.some.inj h), hE⟩)⟩
                  · have e130 : evl l_ (.tmp 130) = .bool false := evl_of (hv_ 7 130 _ (by decide) rfl (hon 7 (by decide)))
                    exact ⟨_, rfl, fun K_ hK_ => q_op _ (x_move (.bool false) rfl e130) (hK_ _ _ ⟨qv_up hV (fun _ h => Option.some.inj h), hE⟩)⟩
                  · have h131 : (fr l_).tmps[131]? = some (.bool false) := hv_ 8 131 _ (by decide) rfl (hon 8 (by decide))
                    have e12 : evl l_ (.tmp 12) = .int .i64 (S'.readE aa) := evl_of ((hel 12 (by decide)).trans rfl)
                    have e131 : evl l_ (.tmp 131) = .bool false := evl_of h131
                    exact ⟨_, rfl, fun K_ hK_ => q_opG (wanted_on (t := 131) rfl rfl rfl h131) _ (x_move (.int .i64 (S'.readE aa)) rfl e12) (hK_ _ _ ⟨qv_up hV (fun _ h => Option.some.inj h), hE⟩)⟩
                  · have h131 : (fr l_).tmps[131]? = some (.bool false) := hv_ 8 131 _ (by decide) rfl (hon 8 (by decide))
                    have e14 : evl l_ (.tmp 14) = .int .i64 (S'.readE aa) := evl_of ((hel 14 (by decide)).trans rfl)
                    have e131 : evl l_ (.tmp 131) = .bool false := evl_of h131
                    exact ⟨_, rfl, fun K_ hK_ => q_opG (wanted_on (t := 131) rfl rfl rfl h131) _ (x_move (.int .i64 (S'.readE aa)) rfl e14) (hK_ _ _ ⟨qv_up hV (fun _ h => Option.some.inj h), hE⟩)⟩
                  · have h131 : (fr l_).tmps[131]? = some (.bool false) := hv_ 8 131 _ (by decide) rfl (hon 8 (by decide))
                    have e131 : evl l_ (.tmp 131) = .bool false := evl_of h131
                    have e132 : evl l_ (.tmp 132) = .int .i64 (S'.readE aa) := evl_of (hv_ 9 132 _ (by decide) rfl (hon 9 (by decide)))
                    have e133 : evl l_ (.tmp 133) = .int .i64 (S'.readE aa) := evl_of (hv_ 10 133 _ (by decide) rfl (hon 10 (by decide)))
                    exact ⟨_, rfl, fun K_ hK_ => q_opG (wanted_on (t := 131) rfl rfl rfl h131) _ (x_cmp (k := .i64) (m := (S'.readE aa)) (n := (S'.readE aa)) .neq false rfl e132 e133 (by unfold cmpB; simp) rfl) (hK_ _ _ ⟨qv_up hV (fun _ h => Option.some.inj h), hE⟩)⟩
                  · have e131 : evl l_ (.tmp 131) = .bool false := evl_of (hv_ 8 131 _ (by decide) rfl (hon 8 (by decide)))
                    have e134 : evl l_ (.tmp 134) = .bool false := evl_of (hv_ 11 134 _ (by decide) rfl (hon 11 (by decide)))
                    exact ⟨_, rfl, fun K_ hK_ => q_op _ (x_pick false (.bool true) (.bool false) (.bool false) rfl e131 rfl e134 rfl) (hK_ _ _ ⟨qv_up hV (fun _ h => Option.some.inj h), hE⟩)⟩
                  · have e135 : evl l_ (.tmp 135) = .bool false := evl_of (hv_ 12 135 _ (by decide) rfl (hon 12 (by decide)))
                    exact ⟨_, rfl, fun K_ hK_ => q_op _ (x_move (.bool false) rfl e135) (hK_ _ _ ⟨qv_up hV (fun _ h => Option.some.inj h), hE⟩)⟩
                  · have h136 : (fr l_).tmps[136]? = some (.bool false) := hv_ 13 136 _ (by decide) rfl (hon 13 (by decide))
                    have e5 : evl l_ (.tmp 5) = .pointer (some ⟨D22, 0, none⟩) := evl_of ((hel 5 (by decide)).trans rfl)
                    have e136 : evl l_ (.tmp 136) = .bool false := evl_of h136
                    exact ⟨_, rfl, fun K_ hK_ => q_opG (wanted_on (t := 136) rfl rfl rfl h136) _ (x_move (.pointer (some ⟨D22, 0, none⟩)) rfl e5) (hK_ _ _ ⟨qv_up hV (fun _ h => Option.some.inj h), hE⟩)⟩
                  · have h136 : (fr l_).tmps[136]? = some (.bool false) := hv_ 13 136 _ (by decide) rfl (hon 13 (by decide))
                    have hE0 := hE
                    rw [show bq_ 25 = false from (hoff 25 (by decide))] at hE0
                    rw [show bq_ 22 = false from (hoff 22 (by decide))] at hE0
                    simp only [cond_true, cond_false] at hE0
                    have HS := hE0
                    have e136 : evl l_ (.tmp 136) = .bool false := evl_of h136
                    have e137 : evl l_ (.tmp 137) = .pointer (some ⟨D22, 0, none⟩) := evl_of (hv_ 14 137 _ (by decide) rfl (hon 14 (by decide)))
                    refine ⟨_, rfl, fun K_ hK_ => wp_of_listG rfl (wanted_on (t := 136) rfl rfl rfl h136) ?_⟩
                    intro ops_
                    refine w_call [.pointer (some ⟨D22, 0, none⟩)] Try.func15 (by kernel_rfl) (by rfl) (by simp only [List.map_cons, List.map_nil, e137] <;> rfl) ?_
                    replace HS := ((((HS.front 8 rfl).front 8 rfl).front 8 rfl).front 8 rfl)
                    refine (down_any HS).mono ?_
                    rintro e w' ⟨rfl, rfl⟩
                    refine ⟨_, rfl, ?_⟩
                    refine wpList_nil ?_
                    exact norm_put (hK_ (.bool S'.down) _ ⟨qv_up hV (fun _ h => Option.some.inj h), hE⟩)
                  · have h136 : (fr l_).tmps[136]? = some (.bool false) := hv_ 13 136 _ (by decide) rfl (hon 13 (by decide))
                    have e6 : evl l_ (.tmp 6) = .pointer (some ⟨g34, 0, none⟩) := evl_of ((hel 6 (by decide)).trans rfl)
                    have e136 : evl l_ (.tmp 136) = .bool false := evl_of h136
                    exact ⟨_, rfl, fun K_ hK_ => q_opG (wanted_on (t := 136) rfl rfl rfl h136) _ (x_field (j := 5) _ _ rfl e6 Try.underlying51 rfl (by rfl) rfl) (hK_ _ _ ⟨qv_up hV (fun _ h => Option.some.inj h), hE⟩)⟩
                  · have h136 : (fr l_).tmps[136]? = some (.bool false) := hv_ 13 136 _ (by decide) rfl (hon 13 (by decide))
                    have hE0 := hE
                    rw [show bq_ 25 = false from (hoff 25 (by decide))] at hE0
                    rw [show bq_ 22 = false from (hoff 22 (by decide))] at hE0
                    simp only [cond_true, cond_false] at hE0
                    have HS := hE0
                    have e136 : evl l_ (.tmp 136) = .bool false := evl_of h136
                    have e139 : evl l_ (.tmp 139) = .pointer (some ⟨g34, 5, none⟩) := evl_of (hv_ 16 139 _ (by decide) rfl (hon 16 (by decide)))
                    exact ⟨_, rfl, fun K_ hK_ => q_opG (wanted_on (t := 136) rfl rfl rfl h136) _ (x_load (.bool R'.down) rfl e139 (bkCell (HS.get (.tail _ (.tail _ (.tail _ (.tail _ (.tail _ (.tail _ (.tail _ (.tail _ (.tail _ (.head _))))))))))) 5 _ rfl) (by rfl)) (hK_ _ _ ⟨qv_up hV (fun _ h => Option.some.inj h), hE⟩)⟩
                  · have h136 : (fr l_).tmps[136]? = some (.bool false) := hv_ 13 136 _ (by decide) rfl (hon 13 (by decide))
                    have e136 : evl l_ (.tmp 136) = .bool false := evl_of h136
                    have e138 : evl l_ (.tmp 138) = .bool S'.down := evl_of (hv_ 15 138 _ (by decide) rfl (hon 15 (by decide)))
                    have e140 : evl l_ (.tmp 140) = .bool R'.down := evl_of (hv_ 17 140 _ (by decide) rfl (hon 17 (by decide)))
                    exact ⟨_, rfl, fun K_ hK_ => q_opG (wanted_on (t := 136) rfl rfl rfl h136) _ (x_boolcmp .neq S'.down R'.down false rfl e138 e140 Try.underlying4 (by rw [hRD2.dn]; simp [eqB]) rfl) (hK_ _ _ ⟨qv_up hV (fun _ h => Option.some.inj h), hE⟩)⟩
                  · have e136 : evl l_ (.tmp 136) = .bool false := evl_of (hv_ 13 136 _ (by decide) rfl (hon 13 (by decide)))
                    have e141 : evl l_ (.tmp 141) = .bool false := evl_of (hv_ 18 141 _ (by decide) rfl (hon 18 (by decide)))
                    exact ⟨_, rfl, fun K_ hK_ => q_op _ (x_pick false (.bool true) (.bool false) (.bool false) rfl e136 rfl e141 rfl) (hK_ _ _ ⟨qv_up hV (fun _ h => Option.some.inj h), hE⟩)⟩
                  · have e142 : evl l_ (.tmp 142) = .bool false := evl_of (hv_ 19 142 _ (by decide) rfl (hon 19 (by decide)))
                    exact ⟨_, rfl, fun K_ hK_ => q_op _ (x_move (.bool false) rfl e142) (hK_ _ _ ⟨qv_up hV (fun _ h => Option.some.inj h), hE⟩)⟩
                  · have h143 : (fr l_).tmps[143]? = some (.bool false) := hv_ 20 143 _ (by decide) rfl (hon 20 (by decide))
                    have e5 : evl l_ (.tmp 5) = .pointer (some ⟨D22, 0, none⟩) := evl_of ((hel 5 (by decide)).trans rfl)
                    have e143 : evl l_ (.tmp 143) = .bool false := evl_of h143
                    exact ⟨_, rfl, fun K_ hK_ => q_opG (wanted_on (t := 143) rfl rfl rfl h143) _ (x_move (.pointer (some ⟨D22, 0, none⟩)) rfl e5) (hK_ _ _ ⟨qv_up hV (fun _ h => Option.some.inj h), hE⟩)⟩
                  · have h143 : (fr l_).tmps[143]? = some (.bool false) := hv_ 20 143 _ (by decide) rfl (hon 20 (by decide))
                    have h144 : (fr l_).tmps[144]? = some (.pointer (some ⟨D22, 0, none⟩)) := hv_ 21 144 _ (by decide) rfl (hon 21 (by decide))
                    have hE0 := hE
                    rw [show bq_ 25 = false from (hoff 25 (by decide))] at hE0
                    rw [show bq_ 22 = false from hb_] at hE0
                    simp only [cond_true, cond_false] at hE0
                    have HS := hE0
                    have e143 : evl l_ (.tmp 143) = .bool false := evl_of h143
                    have e144 : evl l_ (.tmp 144) = .pointer (some ⟨D22, 0, none⟩) := evl_of h144
                    refine ⟨_, rfl, fun K_ hK_ => wp_of_listG rfl (wanted_on (t := 143) rfl rfl rfl h143) ?_⟩
                    intro ops_
                    refine w_call [.pointer (some ⟨D22, 0, none⟩)] Try.func17 (by kernel_rfl) (by rfl) (by simp only [List.map_cons, List.map_nil, e144] <;> rfl) ?_
                    replace HS := ((((HS.front 8 rfl).front 8 rfl).front 8 rfl).front 8 rfl)
                    refine (pending_any HS (by have := hG2.pn; omega)).mono ?_
                    clear HS
                    rintro e w902202 ⟨v902201, rfl, HS⟩
                    refine ⟨_, rfl, ?_⟩
                    refine wpList_nil ?_
                    refine norm_put (hK_ (v902201) _ ⟨qv_up hV (by intro _ h; cases h), ?_⟩)
                    show cond (bq_ 25) _ _
                    rw [show bq_ 25 = false from hoff 25 (by decide), cond_false]
                    show cond true _ _
                    rw [cond_true]
                    exact ⟨v902201, rfl, ((((((((((((HS.front 11 rfl).front 11 rfl).front 11 rfl).front 11 rfl).front 11 rfl).front 11 rfl).front 11 rfl).front 11 rfl).front 11 rfl).front 11 rfl).front 11 rfl).front 11 rfl)⟩
                  · have h143 : (fr l_).tmps[143]? = some (.bool false) := hv_ 20 143 _ (by decide) rfl (hon 20 (by decide))
                    have e6 : evl l_ (.tmp 6) = .pointer (some ⟨g34, 0, none⟩) := evl_of ((hel 6 (by decide)).trans rfl)
                    have e143 : evl l_ (.tmp 143) = .bool false := evl_of h143
                    exact ⟨_, rfl, fun K_ hK_ => q_opG (wanted_on (t := 143) rfl rfl rfl h143) _ (x_field (j := 2) _ _ rfl e6 Try.underlying51 rfl (by rfl) rfl) (hK_ _ _ ⟨qv_up hV (fun _ h => Option.some.inj h), hE⟩)⟩
                  · have h143 : (fr l_).tmps[143]? = some (.bool false) := hv_ 20 143 _ (by decide) rfl (hon 20 (by decide))
                    rcases hq22 : bq_ 22 with _ | _
                    · skip
                      have hE0 := hE
                      rw [show bq_ 25 = false from (hoff 25 (by decide))] at hE0
                      rw [show bq_ 22 = false from hq22] at hE0
                      simp only [cond_true, cond_false] at hE0
                      have HS := hE0
                      have e143 : evl l_ (.tmp 143) = .bool false := evl_of h143
                      have e146 : evl l_ (.tmp 146) = .pointer (some ⟨g34, 2, none⟩) := evl_of (hv_ 23 146 _ (by decide) rfl (hon 23 (by decide)))
                      exact ⟨_, rfl, fun K_ hK_ => q_opG (wanted_on (t := 143) rfl rfl rfl h143) _ (x_load (vp') rfl e146 (bkCell (HS.get (.tail _ (.tail _ (.tail _ (.tail _ (.tail _ (.tail _ (.tail _ (.tail _ (.tail _ (.head _))))))))))) 2 _ rfl) (by rfl)) (hK_ _ _ ⟨qv_up hV (fun _ h => Option.some.inj h), hE⟩)⟩
                    · have hE0 := hE
                      rw [show bq_ 25 = false from (hoff 25 (by decide))] at hE0
                      rw [show bq_ 22 = true from hq22] at hE0
                      simp only [cond_true, cond_false] at hE0
                      obtain ⟨v119, hv22, HS⟩ := hE0
                      have e143 : evl l_ (.tmp 143) = .bool false := evl_of h143
                      have e146 : evl l_ (.tmp 146) = .pointer (some ⟨g34, 2, none⟩) := evl_of (hv_ 23 146 _ (by decide) rfl (hon 23 (by decide)))
                      exact ⟨_, rfl, fun K_ hK_ => q_opG (wanted_on (t := 143) rfl rfl rfl h143) _ (x_load (vp') rfl e146 (bkCell (HS.get (.tail _ (.tail _ (.tail _ (.tail _ (.tail _ (.tail _ (.tail _ (.tail _ (.tail _ (.tail _ (.head _)))))))))))) 2 _ rfl) (by rfl)) (hK_ _ _ ⟨qv_up hV (fun _ h => Option.some.inj h), hE⟩)⟩
                  · have h143 : (fr l_).tmps[143]? = some (.bool false) := hv_ 20 143 _ (by decide) rfl (hon 20 (by decide))
                    have h145 := hval (22, 145) (by decide) (hon 22 (by decide))
                    have h147 : (fr l_).tmps[147]? = some (vp') := hv_ 24 147 _ (by decide) rfl (hon 24 (by decide))
                    have hE0 := hE
                    rw [show bq_ 25 = false from hb_] at hE0
                    rw [show bq_ 22 = true from (hon 22 (by decide))] at hE0
                    simp only [cond_true, cond_false] at hE0
                    obtain ⟨v119, hv22, HS⟩ := hE0
                    rw [hv22] at h145
                    have e143 : evl l_ (.tmp 143) = .bool false := evl_of h143
                    have e145 : evl l_ (.tmp 145) = v119 := evl_of h145
                    have e147 : evl l_ (.tmp 147) = vp' := evl_of h147
                    refine ⟨_, rfl, fun K_ hK_ => wp_of_listG rfl (wanted_on (t := 143) rfl rfl rfl h143) ?_⟩
                    intro ops_
                    refine w_call [v119, vp'] Try.func29 (by kernel_rfl) (by rfl) (by simp only [List.map_cons, List.map_nil, e145, e147] <;> rfl) ?_
                    replace HS := ((HS.front 8 rfl).front 1 rfl)
                    refine (dsame2 hRD2.pd HS (by have := hG2.pn; omega)).mono ?_
                    clear HS
                    rintro e w902501 ⟨rfl, HS⟩
                    refine ⟨_, rfl, ?_⟩
                    refine wpList_nil ?_
                    refine norm_put (hK_ (.bool true) _ ⟨qv_up hV (by intro _ h; cases h), ?_⟩)
                    show cond true _ _
                    rw [cond_true]
                    exact ⟨v119, hv22, rfl, ((((((((((((HS.front 11 rfl).front 11 rfl).front 11 rfl).front 11 rfl).front 11 rfl).front 11 rfl).front 11 rfl).front 11 rfl).front 11 rfl).front 11 rfl).front 11 rfl).front 11 rfl)⟩
                  · have h143 : (fr l_).tmps[143]? = some (.bool false) := hv_ 20 143 _ (by decide) rfl (hon 20 (by decide))
                    have h148 := hval (25, 148) (by decide) (hon 25 (by decide))
                    have hE0 := hE
                    rw [show bq_ 25 = true from (hon 25 (by decide))] at hE0
                    simp only [cond_true, cond_false] at hE0
                    obtain ⟨v119, hv22, hv25, HS⟩ := hE0
                    rw [hv25] at h148
                    have e143 : evl l_ (.tmp 143) = .bool false := evl_of h143
                    have e148 : evl l_ (.tmp 148) = .bool true := evl_of h148
                    exact ⟨_, rfl, fun K_ hK_ => q_opG (wanted_on (t := 143) rfl rfl rfl h143) _ (x_not true rfl e148) (hK_ _ _ ⟨qv_up hV (fun _ h => Option.some.inj h), hE⟩)⟩
                  · have e143 : evl l_ (.tmp 143) = .bool false := evl_of (hv_ 20 143 _ (by decide) rfl (hon 20 (by decide)))
                    have e149 : evl l_ (.tmp 149) = .bool false := evl_of (hv_ 26 149 _ (by decide) rfl (hon 26 (by decide)))
                    exact ⟨_, rfl, fun K_ hK_ => q_op _ (x_pick false (.bool true) (.bool false) (.bool false) rfl e143 rfl e149 rfl) (hK_ _ _ ⟨qv_up hV (fun _ h => Option.some.inj h), hE⟩)⟩
                intro bq_ vq_ w_ hall hG
                obtain ⟨hV, hE⟩ := hG
                clear HS
                rw [show bq_ 25 = true from hall 25 (by decide)] at hE
                simp only [cond_true] at hE
                obtain ⟨v119, hv22, hv25, HS⟩ := hE
                have hv0 := hV 0 _ rfl (hall 0 (by decide))
                have hv1 := hV 1 _ rfl (hall 1 (by decide))
                have hv2 := hV 2 _ rfl (hall 2 (by decide))
                have hv3 := hV 3 _ rfl (hall 3 (by decide))
                have hv4 := hV 4 _ rfl (hall 4 (by decide))
                have hv5 := hV 5 _ rfl (hall 5 (by decide))
                have hv6 := hV 6 _ rfl (hall 6 (by decide))
                have hv7 := hV 7 _ rfl (hall 7 (by decide))
                have hv8 := hV 8 _ rfl (hall 8 (by decide))
                have hv9 := hV 9 _ rfl (hall 9 (by decide))
                have hv10 := hV 10 _ rfl (hall 10 (by decide))
                have hv11 := hV 11 _ rfl (hall 11 (by decide))
                have hv12 := hV 12 _ rfl (hall 12 (by decide))
                have hv13 := hV 13 _ rfl (hall 13 (by decide))
                have hv14 := hV 14 _ rfl (hall 14 (by decide))
                have hv15 := hV 15 _ rfl (hall 15 (by decide))
                have hv16 := hV 16 _ rfl (hall 16 (by decide))
                have hv17 := hV 17 _ rfl (hall 17 (by decide))
                have hv18 := hV 18 _ rfl (hall 18 (by decide))
                have hv19 := hV 19 _ rfl (hall 19 (by decide))
                have hv20 := hV 20 _ rfl (hall 20 (by decide))
                have hv21 := hV 21 _ rfl (hall 21 (by decide))
                have hv23 := hV 23 _ rfl (hall 23 (by decide))
                have hv24 := hV 24 _ rfl (hall 24 (by decide))
                have hv26 := hV 26 _ rfl (hall 26 (by decide))
                have hv27 := hV 27 _ rfl (hall 27 (by decide))
                clear hV hall
                rw [putSel_fr]
                simp only [tells, List.map_cons, List.map_nil, setAll, List.set_cons_succ, List.set_cons_zero, hv0, hv1, hv2, hv3, hv4, hv5, hv6, hv7, hv8, hv9, hv10, hv11, hv12, hv13, hv14, hv15, hv16, hv17, hv18, hv19, hv20, hv21, hv22, hv23, hv24, hv25, hv26, hv27]
                clear hv0 hv1 hv2 hv3 hv4 hv5 hv6 hv7 hv8 hv9 hv10 hv11 hv12 hv13 hv14 hv15 hv16 hv17 hv18 hv19 hv20 hv21 hv22 hv23 hv24 hv25 hv26 hv27
                generalize w_ = w902601 at HS ⊢
                refine fr_at (l' := (.int .i64 pages :: .slice (some ad) l1.length c1 :: undef :: undef :: q44.a :: .pointer (some ⟨D22, 0, none⟩) :: .pointer (some ⟨g34, 0, none⟩) :: undef :: .pointer (some ⟨g76, 0, none⟩) :: .int .i64 e_ :: .int .i64 e_ :: .pointer (some ⟨g102, 0, none⟩) :: .int .i64 (S'.readE aa) :: .pointer (some ⟨g111, 0, none⟩) :: .int .i64 (S'.readE aa) :: PR_ pages ad l1 c1 D22 v31 v32 (.int .i64 (i : Int) :: .bool (decide ((i : Int) < (l1.length : Int))) :: .pointer (some ((ad).add (i * 4))) :: .agg ([.int .i64 kd, .int .i64 aa, .int .u8 bb, .slice A3 kp.length c3] : List Value).toArray :: V8.l q87 (V8.l q88 (V8.l q89 (V8.l q90 (V8.l q91 (V8.l q92 (V8.l q93 (V8.l q94 (q95.a :: q95.b :: q95.c :: q95.d :: q95.e :: q95.f :: .tuple [.agg ((nums .u8 (S'.readP aa))).toArray, .int .i64 (S'.readE aa)].toArray :: .pointer (some ⟨D22, 0, none⟩) :: .pointer (some ⟨g76, 1, none⟩) :: .int .i64 aa :: .tuple [.agg ((nums .u8 (S'.readP aa))).toArray, .int .i64 (S'.readE aa)].toArray :: .agg ((nums .u8 (S'.readP aa))).toArray :: .int .i64 (S'.readE aa) :: .tuple [.agg ((nums .u8 (S'.readP aa))).toArray, .int .i64 (S'.readE aa)].toArray :: rkV vs' vb' vp' R' :: .pointer (some ⟨g76, 1, none⟩) :: .int .i64 aa :: .tuple [.agg ((nums .u8 (S'.readP aa))).toArray, .int .i64 (S'.readE aa)].toArray :: .agg ((nums .u8 (S'.readP aa))).toArray :: .int .i64 (S'.readE aa) :: .int .i64 e_ :: .int .i64 e_ :: .bool false :: .bool false :: .agg ((nums .u8 (S'.readP aa))).toArray :: .agg ((nums .u8 (S'.readP aa))).toArray :: .bool false :: .bool false :: .bool false :: .int .i64 (S'.readE aa) :: .int .i64 (S'.readE aa) :: .bool false :: .bool false :: .bool false :: .pointer (some ⟨D22, 0, none⟩) :: .bool S'.down :: .pointer (some ⟨g34, 5, none⟩) :: .bool R'.down :: .bool false :: .bool false :: .bool false :: .pointer (some ⟨D22, 0, none⟩) :: v119 :: .pointer (some ⟨g34, 2, none⟩) :: vp' :: .bool true :: .bool false :: .bool false :: q59.d :: U32L4g (U8L4g (undef :: []))))))))))))) rfl ?_
                refine hK116 _ _ ?_
                refine c_false rfl ?_
                refine wp_skip ?_
                refine hK71 _ _ ?_
                refine c_region (fun ops902603 hops902602 => ?_)
                clear hops902602
                refine p_run (l' := _) _ (x_arith (k := .i64) (m := (i : Int)) (n := 1) .add (((i + 1 : Nat) : Int)) rfl rfl rfl (show IntKind.i64.wrap ((i : Int) + 1) = ((i + 1 : Nat) : Int) from ((wr64 (by omega)).trans (by omega))) rfl) rfl ?_
                refine p_run (l' := _) _ (x_move (.int .i64 ((i + 1 : Nat) : Int)) rfl rfl) rfl ?_
                refine wpList_nil ?_
                refine fr_at (l' := (.int .i64 pages :: .slice (some ad) l1.length c1 :: undef :: undef :: q44.a :: .pointer (some ⟨D22, 0, none⟩) :: .pointer (some ⟨g34, 0, none⟩) :: undef :: .pointer (some ⟨g76, 0, none⟩) :: .int .i64 e_ :: .int .i64 e_ :: .pointer (some ⟨g102, 0, none⟩) :: .int .i64 (S'.readE aa) :: .pointer (some ⟨g111, 0, none⟩) :: .int .i64 (S'.readE aa) :: PR_ pages ad l1 c1 D22 v31 v32 (.int .i64 ((i + 1 : Nat) : Int) :: .bool (decide ((i : Int) < (l1.length : Int))) :: .pointer (some ((ad).add (i * 4))) :: .agg ([.int .i64 kd, .int .i64 aa, .int .u8 bb, .slice A3 kp.length c3] : List Value).toArray :: V8.l q87 (V8.l q88 (V8.l q89 (V8.l q90 (V8.l q91 (V8.l q92 (V8.l q93 (V8.l q94 (q95.a :: q95.b :: q95.c :: q95.d :: q95.e :: q95.f :: .tuple [.agg ((nums .u8 (S'.readP aa))).toArray, .int .i64 (S'.readE aa)].toArray :: .pointer (some ⟨D22, 0, none⟩) :: .pointer (some ⟨g76, 1, none⟩) :: .int .i64 aa :: .tuple [.agg ((nums .u8 (S'.readP aa))).toArray, .int .i64 (S'.readE aa)].toArray :: .agg ((nums .u8 (S'.readP aa))).toArray :: .int .i64 (S'.readE aa) :: .tuple [.agg ((nums .u8 (S'.readP aa))).toArray, .int .i64 (S'.readE aa)].toArray :: rkV vs' vb' vp' R' :: .pointer (some ⟨g76, 1, none⟩) :: .int .i64 aa :: .tuple [.agg ((nums .u8 (S'.readP aa))).toArray, .int .i64 (S'.readE aa)].toArray :: .agg ((nums .u8 (S'.readP aa))).toArray :: .int .i64 (S'.readE aa) :: .int .i64 e_ :: .int .i64 e_ :: .bool false :: .bool false :: .agg ((nums .u8 (S'.readP aa))).toArray :: .agg ((nums .u8 (S'.readP aa))).toArray :: .bool false :: .bool false :: .bool false :: .int .i64 (S'.readE aa) :: .int .i64 (S'.readE aa) :: .bool false :: .bool false :: .bool false :: .pointer (some ⟨D22, 0, none⟩) :: .bool S'.down :: .pointer (some ⟨g34, 5, none⟩) :: .bool R'.down :: .bool false :: .bool false :: .bool false :: .pointer (some ⟨D22, 0, none⟩) :: v119 :: .pointer (some ⟨g34, 2, none⟩) :: vp' :: .bool true :: .bool false :: .bool false :: .int .i64 ((i + 1 : Nat) : Int) :: U32L4g (U8L4g (undef :: []))))))))))))) rfl ?_
                refine hJ61 (i + 1, S', R', v', vs', vb', vp') _ _ ?_ ?_
                · show l1.length - (i + 1) < l1.length - i; omega
                · exact ⟨⟨q44.a, .pointer (some ⟨g76, 0, none⟩), .int .i64 e_, .int .i64 e_, .pointer (some ⟨g102, 0, none⟩), .int .i64 (S'.readE aa), .pointer (some ⟨g111, 0, none⟩), .int .i64 (S'.readE aa)⟩, ⟨.bool (decide ((i : Int) < (l1.length : Int))), .pointer (some ((ad).add (i * 4))), .agg ([.int .i64 kd, .int .i64 aa, .int .u8 bb, .slice A3 kp.length c3] : List Value).toArray, q87.a, q87.b, q87.c, q87.d, q87.e⟩, ⟨q87.f, q87.g, q87.h, q88.a, q88.b, q88.c, q88.d, q88.e⟩, ⟨q88.f, q88.g, q88.h, q89.a, q89.b, q89.c, q89.d, q89.e⟩, ⟨q89.f, q89.g, q89.h, q90.a, q90.b, q90.c, q90.d, q90.e⟩, ⟨q90.f, q90.g, q90.h, q91.a, q91.b, q91.c, q91.d, q91.e⟩, ⟨q91.f, q91.g, q91.h, q92.a, q92.b, q92.c, q92.d, q92.e⟩, ⟨q92.f, q92.g, q92.h, q93.a, q93.b, q93.c, q93.d, q93.e⟩, ⟨q93.f, q93.g, q93.h, q94.a, q94.b, q94.c, q94.d, q94.e⟩, ⟨q94.f, q94.g, q94.h, q95.a, q95.b, q95.c, q95.d, q95.e⟩, ⟨q95.f, .tuple [.agg ((nums .u8 (S'.readP aa))).toArray, .int .i64 (S'.readE aa)].toArray, .pointer (some ⟨D22, 0, none⟩), .pointer (some ⟨g76, 1, none⟩), .int .i64 aa, .tuple [.agg ((nums .u8 (S'.readP aa))).toArray, .int .i64 (S'.readE aa)].toArray, .agg ((nums .u8 (S'.readP aa))).toArray, .int .i64 (S'.readE aa)⟩, ⟨.tuple [.agg ((nums .u8 (S'.readP aa))).toArray, .int .i64 (S'.readE aa)].toArray, rkV vs' vb' vp' R', .pointer (some ⟨g76, 1, none⟩), .int .i64 aa, .tuple [.agg ((nums .u8 (S'.readP aa))).toArray, .int .i64 (S'.readE aa)].toArray, .agg ((nums .u8 (S'.readP aa))).toArray, .int .i64 (S'.readE aa), .int .i64 e_⟩, ⟨.int .i64 e_, .bool false, .bool false, .agg ((nums .u8 (S'.readP aa))).toArray, .agg ((nums .u8 (S'.readP aa))).toArray, .bool false, .bool false, .bool false⟩, ⟨.int .i64 (S'.readE aa), .int .i64 (S'.readE aa), .bool false, .bool false, .bool false, .pointer (some ⟨D22, 0, none⟩), .bool S'.down, .pointer (some ⟨g34, 5, none⟩)⟩, ⟨.bool R'.down, .bool false, .bool false, .bool false, .pointer (some ⟨D22, 0, none⟩), v119, .pointer (some ⟨g34, 2, none⟩), vp'⟩, ⟨.bool true, .bool false, .bool false, .int .i64 ((i + 1 : Nat) : Int), undef, undef, undef, undef⟩, rfl, (((((((((((HS.drop.front 5 rfl).drop.front 7 rfl).drop.front 8 rfl).drop.front 7 rfl).front 1 rfl).front 7 rfl).front 7 rfl).front 7 rfl).front 7 rfl).front 7 rfl).front 7 rfl), ⟨hRD2, hG2, by omega⟩⟩
              clear hK85
              refine wp_seq_k (fun K902604 hK902605 => ?_)
              refine c_region (fun ops902607 hops902606 => ?_)
              clear hops902606
              refine p_run (l' := _) _ (x_field (j := 0) _ _ rfl rfl Try.underlying38 rfl (by rfl) rfl) rfl ?_
              refine p_run (l' := _) _ (x_load (.int .i64 kd) rfl rfl (bkCell (HS.get (.head _)) 0 _ rfl) (by rfl)) rfl ?_
              refine wpList_nil ?_
              refine hK902605 _ _ ?_
              refine wp_block ?_
              refine wp_seq_k (fun K902608 hK902609 => ?_)
              rcases rdkd_split kd with rfl | rfl | rfl | rfl | rfl | rfl | hk
              · skip
                refine c_region (fun ops902611 hops902610 => ?_)
                clear hops902610
                refine p_run (l' := _) _ (x_cmp (k := .i64) (m := 0) (n := 0) .eql true rfl rfl rfl (by decide) rfl) rfl ?_
                refine p_run (l' := _) _ (x_assign (.bool true) rfl rfl) rfl ?_
                refine wpList_nil ?_
                refine hK902609 _ _ ?_
                refine c_true rfl ?_
                refine wp_seq_k (fun K902612 hK902613 => ?_)
                refine free_frame (n := 8) (T := _) [0, 0, 2, 0, 8, 24, 63, 127] [(0, 43), (1, 44), (2, 45), (3, 46), (4, 47), (5, 48), (6, 49), (7, 9)] (fun bq_ vq_ w_ => qv ((fun i_ => match i_ with | 0 => some (.pointer (some ⟨D22, 0, none⟩)) | 1 => some (.pointer (some ⟨g76, 1, none⟩)) | 2 => some (.int .i64 aa) | 3 => some (.pointer (some ⟨g76, 2, none⟩)) | 4 => some (.int .u8 bb) | 7 => some (.int .i64 (S.writeE aa)) | _ => none) : Nat → Option Value) bq_ vq_ ∧ cond (bq_ 6) (∃ (v902617 : Value), vq_ 5 = .agg ((nums .u8 (rep bb))).toArray ∧ vq_ 6 = .int .i64 (S.writeE aa) ∧ St w (fun _ => False) w_ ([blk D22 (dskC gs23 gm24 v902617 (S.write aa (rep bb))) 66, blk gs23 (pgs (S.write aa (rep bb)).stable) 31, mapR gm24 (S.write aa (rep bb)).cnt (S.write aa (rep bb)).bad, row kWr rfl 71 v902617 (S.write aa (rep bb)).pending, blk g76 [.int .i64 0, .int .i64 aa, .int .u8 bb, .slice A3 kp.length c3] 38, row kPg rfl 31 vs R.stable, row Kd.bool rfl 4 vb R.bad, row kWr rfl 74 vp R.pending, blk g34 [vs, vb, vp, .bool R.counted, .int .i64 R.left, .bool R.down] 51])) (cond (bq_ 5) (vq_ 5 = .agg ((nums .u8 (rep bb))).toArray ∧ St w (fun _ => False) w_ ([blk g76 [.int .i64 0, .int .i64 aa, .int .u8 bb, .slice A3 kp.length c3] 38, blk D22 (dskC gs23 gm24 v S) 66, blk gs23 (pgs S.stable) 31, mapR gm24 S.cnt S.bad, row kWr rfl 71 v S.pending, row kPg rfl 31 vs R.stable, row Kd.bool rfl 4 vb R.bad, row kWr rfl 74 vp R.pending, blk g34 [vs, vb, vp, .bool R.counted, .int .i64 R.left, .bool R.down] 51])) ((St w (fun _ => False) w_ ([blk g76 [.int .i64 0, .int .i64 aa, .int .u8 bb, .slice A3 kp.length c3] 38, blk D22 (dskC gs23 gm24 v S) 66, blk gs23 (pgs S.stable) 31, mapR gm24 S.cnt S.bad, row kWr rfl 71 v S.pending, row kPg rfl 31 vs R.stable, row Kd.bool rfl 4 vb R.bad, row kWr rfl 74 vp R.pending, blk g34 [vs, vb, vp, .bool R.counted, .int .i64 R.left, .bool R.down] 51]))))) (by kernel_rfl) rfl rfl (by kernel_rfl) (by kernel_rfl) rfl (by kernel_rfl) (by kernel_rfl) ⟨qv_none, HS.draw⟩ ?_ ?_
                · clear HS
                  intro i_ hi_ bq_ vq_ a_ w_ hG hb_ hon hoff hfr hel hval
                  obtain ⟨hV, hE⟩ := hG
                  have hi_ := List.mem_range.1 hi_
                  obtain ⟨l_, rfl⟩ := hfr
                  have hv_ := fun (j t : Nat) (v : Value) (h1 : (j, t) ∈ [(0, 43), (1, 44), (2, 45), (3, 46), (4, 47), (5, 48), (6, 49), (7, 9)]) h2 h3 => (hval (j, t) h1 h3).trans (congrArg some (hV j v h2 h3))
                  have hcs : i_ = 0 ∨ i_ = 1 ∨ i_ = 2 ∨ i_ = 3 ∨ i_ = 4 ∨ i_ = 5 ∨ i_ = 6 ∨ i_ = 7 := by omega
                  rcases hcs with rfl | rfl | rfl | rfl | rfl | rfl | rfl | rfl
                  · have e5 : evl l_ (.tmp 5) = .pointer (some ⟨D22, 0, none⟩) := evl_of ((hel 5 (by decide)).trans rfl)
                    exact ⟨_, rfl, fun K_ hK_ => q_op _ (x_move (.pointer (some ⟨D22, 0, none⟩)) rfl e5) (hK_ _ _ ⟨qv_up hV (fun _ h => Option.some.inj h), hE⟩)⟩
                  · have e8 : evl l_ (.tmp 8) = .pointer (some ⟨g76, 0, none⟩) := evl_of ((hel 8 (by decide)).trans rfl)
                    exact ⟨_, rfl, fun K_ hK_ => q_op _ (x_field (j := 1) _ _ rfl e8 Try.underlying38 rfl (by rfl) rfl) (hK_ _ _ ⟨qv_up hV (fun _ h => Option.some.inj h), hE⟩)⟩
                  · rcases hq5 : bq_ 5 with _ | _
                    · skip
                      have hE0 := hE
                      rw [show bq_ 6 = false from (hoff 6 (by decide))] at hE0
                      rw [show bq_ 5 = false from hq5] at hE0
                      simp only [cond_true, cond_false] at hE0
                      have HS := hE0
                      have e44 : evl l_ (.tmp 44) = .pointer (some ⟨g76, 1, none⟩) := evl_of (hv_ 1 44 _ (by decide) rfl (hon 1 (by decide)))
                      exact ⟨_, rfl, fun K_ hK_ => q_op _ (x_load (.int .i64 aa) rfl e44 (bkCell (HS.get (.head _)) 1 _ rfl) (by rfl)) (hK_ _ _ ⟨qv_up hV (fun _ h => Option.some.inj h), hE⟩)⟩
                    · have hE0 := hE
                      rw [show bq_ 6 = false from (hoff 6 (by decide))] at hE0
                      rw [show bq_ 5 = true from hq5] at hE0
                      simp only [cond_true, cond_false] at hE0
                      obtain ⟨hv5, HS⟩ := hE0
                      have e44 : evl l_ (.tmp 44) = .pointer (some ⟨g76, 1, none⟩) := evl_of (hv_ 1 44 _ (by decide) rfl (hon 1 (by decide)))
                      exact ⟨_, rfl, fun K_ hK_ => q_op _ (x_load (.int .i64 aa) rfl e44 (bkCell (HS.get (.head _)) 1 _ rfl) (by rfl)) (hK_ _ _ ⟨qv_up hV (fun _ h => Option.some.inj h), hE⟩)⟩
                  · have e8 : evl l_ (.tmp 8) = .pointer (some ⟨g76, 0, none⟩) := evl_of ((hel 8 (by decide)).trans rfl)
                    exact ⟨_, rfl, fun K_ hK_ => q_op _ (x_field (j := 2) _ _ rfl e8 Try.underlying38 rfl (by rfl) rfl) (hK_ _ _ ⟨qv_up hV (fun _ h => Option.some.inj h), hE⟩)⟩
                  · have hE0 := hE
                    rw [show bq_ 6 = false from (hoff 6 (by decide))] at hE0
                    rw [show bq_ 5 = false from (hoff 5 (by decide))] at hE0
                    simp only [cond_true, cond_false] at hE0
                    have HS := hE0
                    have e46 : evl l_ (.tmp 46) = .pointer (some ⟨g76, 2, none⟩) := evl_of (hv_ 3 46 _ (by decide) rfl (hon 3 (by decide)))
                    exact ⟨_, rfl, fun K_ hK_ => q_op _ (x_load (.int .u8 bb) rfl e46 (bkCell (HS.get (.head _)) 2 _ rfl) (by rfl)) (hK_ _ _ ⟨qv_up hV (fun _ h => Option.some.inj h), hE⟩)⟩
                  · have h47 : (fr l_).tmps[47]? = some (.int .u8 bb) := hv_ 4 47 _ (by decide) rfl (hon 4 (by decide))
                    have hE0 := hE
                    rw [show bq_ 6 = false from (hoff 6 (by decide))] at hE0
                    rw [show bq_ 5 = false from hb_] at hE0
                    simp only [cond_true, cond_false] at hE0
                    have HS := hE0
                    have e47 : evl l_ (.tmp 47) = .int .u8 bb := evl_of h47
                    refine ⟨_, rfl, fun K_ hK_ => wp_of_list rfl ?_⟩
                    intro ops_
                    refine w_call [.int .u8 bb] Try.func14 (by kernel_rfl) (by rfl) (by simp only [List.map_cons, List.map_nil, e47] <;> rfl) ?_
                    refine (full_any HS bb).mono ?_
                    clear HS
                    rintro e w900501 ⟨rfl, HS⟩
                    refine ⟨_, rfl, ?_⟩
                    refine wpList_nil ?_
                    refine norm_put (hK_ (.agg ((nums .u8 (rep bb))).toArray) _ ⟨qv_up hV (by intro _ h; cases h), ?_⟩)
                    show cond (bq_ 6) _ _
                    rw [show bq_ 6 = false from hoff 6 (by decide), cond_false]
                    show cond true _ _
                    rw [cond_true]
                    exact ⟨rfl, (((((((((HS.front 8 rfl).front 8 rfl).front 8 rfl).front 8 rfl).front 8 rfl).front 8 rfl).front 8 rfl).front 8 rfl).front 8 rfl)⟩
                  · have h43 : (fr l_).tmps[43]? = some (.pointer (some ⟨D22, 0, none⟩)) := hv_ 0 43 _ (by decide) rfl (hon 0 (by decide))
                    have h45 : (fr l_).tmps[45]? = some (.int .i64 aa) := hv_ 2 45 _ (by decide) rfl (hon 2 (by decide))
                    have h48 := hval (5, 48) (by decide) (hon 5 (by decide))
                    have hE0 := hE
                    rw [show bq_ 6 = false from hb_] at hE0
                    rw [show bq_ 5 = true from (hon 5 (by decide))] at hE0
                    simp only [cond_true, cond_false] at hE0
                    obtain ⟨hv5, HS⟩ := hE0
                    rw [hv5] at h48
                    have e43 : evl l_ (.tmp 43) = .pointer (some ⟨D22, 0, none⟩) := evl_of h43
                    have e45 : evl l_ (.tmp 45) = .int .i64 aa := evl_of h45
                    have e48 : evl l_ (.tmp 48) = .agg ((nums .u8 (rep bb))).toArray := evl_of h48
                    refine ⟨_, rfl, fun K_ hK_ => wp_of_list rfl ?_⟩
                    intro ops_
                    refine w_call [.pointer (some ⟨D22, 0, none⟩), .int .i64 aa, .agg ((nums .u8 (rep bb))).toArray] Try.func13 (by kernel_rfl) (by rfl) (by simp only [List.map_cons, List.map_nil, e43, e45, e48] <;> rfl) ?_
                    replace HS := ((((HS.front 4 rfl).front 4 rfl).front 4 rfl).front 4 rfl)
                    refine (write_any HS hG.lft (by have := hG.pn; omega) aa (rep bb) (rep_len _)).mono ?_
                    clear HS
                    rintro e w900602 ⟨v900601, rfl, HS⟩
                    refine ⟨_, rfl, ?_⟩
                    refine wpList_nil ?_
                    refine norm_put (hK_ (.int .i64 (S.writeE aa)) _ ⟨qv_up hV (by intro _ h; cases h), ?_⟩)
                    show cond true _ _
                    rw [cond_true]
                    exact ⟨v900601, hv5, rfl, (((((((((HS.front 8 rfl).front 8 rfl).front 8 rfl).front 8 rfl).front 8 rfl).front 8 rfl).front 8 rfl).front 8 rfl).front 8 rfl)⟩
                  · have h49 := hval (6, 49) (by decide) (hon 6 (by decide))
                    have hE0 := hE
                    rw [show bq_ 6 = true from (hon 6 (by decide))] at hE0
                    simp only [cond_true, cond_false] at hE0
                    obtain ⟨v902617, hv5, hv6, HS⟩ := hE0
                    rw [hv6] at h49
                    have e49 : evl l_ (.tmp 49) = .int .i64 (S.writeE aa) := evl_of h49
                    exact ⟨_, rfl, fun K_ hK_ => q_op _ (x_assign (.int .i64 (S.writeE aa)) rfl e49) (hK_ _ _ ⟨qv_up hV (fun _ h => Option.some.inj h), hE⟩)⟩
                intro bq_ vq_ w_ hall hG
                obtain ⟨hV, hE⟩ := hG
                clear HS
                rw [show bq_ 6 = true from hall 6 (by decide)] at hE
                simp only [cond_true] at hE
                obtain ⟨v902617, hv5, hv6, HS⟩ := hE
                have hv0 := hV 0 _ rfl (hall 0 (by decide))
                have hv1 := hV 1 _ rfl (hall 1 (by decide))
                have hv2 := hV 2 _ rfl (hall 2 (by decide))
                have hv3 := hV 3 _ rfl (hall 3 (by decide))
                have hv4 := hV 4 _ rfl (hall 4 (by decide))
                have hv7 := hV 7 _ rfl (hall 7 (by decide))
                clear hV hall
                rw [putSel_fr]
                simp only [tells, List.map_cons, List.map_nil, setAll, List.set_cons_succ, List.set_cons_zero, hv0, hv1, hv2, hv3, hv4, hv5, hv6, hv7]
                clear hv0 hv1 hv2 hv3 hv4 hv5 hv6 hv7
                generalize w_ = w900701 at HS ⊢
                refine fr_at (l' := (.int .i64 pages :: .slice (some ad) l1.length c1 :: undef :: undef :: q44.a :: .pointer (some ⟨D22, 0, none⟩) :: .pointer (some ⟨g34, 0, none⟩) :: undef :: .pointer (some ⟨g76, 0, none⟩) :: .int .i64 (S.writeE aa) :: .int .i64 0 :: q44.e :: q44.f :: q44.g :: q44.h :: PR_ pages ad l1 c1 D22 v31 v32 (.int .i64 (i : Int) :: .bool (decide ((i : Int) < (l1.length : Int))) :: .pointer (some ((ad).add (i * 4))) :: .agg ([.int .i64 0, .int .i64 aa, .int .u8 bb, .slice A3 kp.length c3] : List Value).toArray :: .pointer (some ⟨g76, 0, none⟩) :: .int .i64 0 :: .bool true :: .bool true :: .pointer (some ⟨D22, 0, none⟩) :: .pointer (some ⟨g76, 1, none⟩) :: .int .i64 aa :: .pointer (some ⟨g76, 2, none⟩) :: .int .u8 bb :: .agg ((nums .u8 (rep bb))).toArray :: .int .i64 (S.writeE aa) :: q46.g :: q46.h :: V8.l q47 (V8.l q48 (V8.l q49 (V8.l q50 (V8.l q51 (V8.l q52 (V8.l q53 (V8.l q54 (V8.l q55 (V8.l q56 (V8.l q57 (V8.l q58 (q59.a :: q59.b :: q59.c :: q59.d :: U32L4g (U8L4g (undef :: []))))))))))))))))) rfl ?_
                refine hK902613 _ _ ?_
                refine free_frame (n := 12) (T := _) [0, 0, 2, 0, 8, 24, 63, 127, 255, 255, 511, 2047] [(0, 51), (1, 52), (2, 53), (3, 54), (4, 55), (5, 56), (6, 57), (7, 50), (8, 58), (9, 59), (11, 10)] (fun bq_ vq_ w_ => qv ((fun i_ => match i_ with | 0 => some (rkV vs vb vp R) | 1 => some (.pointer (some ⟨g76, 1, none⟩)) | 2 => some (.int .i64 aa) | 3 => some (.pointer (some ⟨g76, 2, none⟩)) | 4 => some (.int .u8 bb) | 9 => some (.int .i64 (S.writeE aa)) | 11 => some (.int .i64 (S.writeE aa)) | _ => none) : Nat → Option Value) bq_ vq_ ∧ cond (bq_ 10) (∃ (v900705 : Value), vq_ 5 = .agg ((nums .u8 (rep bb))).toArray ∧ vq_ 6 = .tuple [rkV vs vb v900705 (R.put aa (rep bb)), .int .i64 (S.writeE aa)].toArray ∧ vq_ 7 = .tuple [rkV vs vb v900705 (R.put aa (rep bb)), .int .i64 (S.writeE aa)].toArray ∧ vq_ 8 = rkV vs vb v900705 (R.put aa (rep bb)) ∧ St w (fun _ => False) w_ ([blk g34 [vs, vb, v900705, .bool ((R.put aa (rep bb)).counted), .int .i64 ((R.put aa (rep bb)).left), .bool ((R.put aa (rep bb)).down)] 51, row kPg rfl 31 vs ((R.put aa (rep bb)).stable), row Kd.bool rfl 4 vb ((R.put aa (rep bb)).bad), row kWr rfl 74 v900705 ((R.put aa (rep bb)).pending), blk D22 (dskC gs23 gm24 v902617 (S.write aa (rep bb))) 66, blk gs23 (pgs (S.write aa (rep bb)).stable) 31, mapR gm24 (S.write aa (rep bb)).cnt (S.write aa (rep bb)).bad, row kWr rfl 71 v902617 (S.write aa (rep bb)).pending, blk g76 [.int .i64 0, .int .i64 aa, .int .u8 bb, .slice A3 kp.length c3] 38])) (cond (bq_ 8) (∃ (v900705 : Value), vq_ 5 = .agg ((nums .u8 (rep bb))).toArray ∧ vq_ 6 = .tuple [rkV vs vb v900705 (R.put aa (rep bb)), .int .i64 (S.writeE aa)].toArray ∧ vq_ 7 = .tuple [rkV vs vb v900705 (R.put aa (rep bb)), .int .i64 (S.writeE aa)].toArray ∧ vq_ 8 = rkV vs vb v900705 (R.put aa (rep bb)) ∧ St w (fun _ => False) w_ ([row kPg rfl 31 vs ((R.put aa (rep bb)).stable), row Kd.bool rfl 4 vb ((R.put aa (rep bb)).bad), row kWr rfl 74 v900705 ((R.put aa (rep bb)).pending), blk D22 (dskC gs23 gm24 v902617 (S.write aa (rep bb))) 66, blk gs23 (pgs (S.write aa (rep bb)).stable) 31, mapR gm24 (S.write aa (rep bb)).cnt (S.write aa (rep bb)).bad, row kWr rfl 71 v902617 (S.write aa (rep bb)).pending, blk g76 [.int .i64 0, .int .i64 aa, .int .u8 bb, .slice A3 kp.length c3] 38, blk g34 [vs, vb, vp, .bool R.counted, .int .i64 R.left, .bool R.down] 51])) (cond (bq_ 7) (∃ (v900705 : Value), vq_ 5 = .agg ((nums .u8 (rep bb))).toArray ∧ vq_ 6 = .tuple [rkV vs vb v900705 (R.put aa (rep bb)), .int .i64 (S.writeE aa)].toArray ∧ vq_ 7 = .tuple [rkV vs vb v900705 (R.put aa (rep bb)), .int .i64 (S.writeE aa)].toArray ∧ St w (fun _ => False) w_ ([row kPg rfl 31 vs ((R.put aa (rep bb)).stable), row Kd.bool rfl 4 vb ((R.put aa (rep bb)).bad), row kWr rfl 74 v900705 ((R.put aa (rep bb)).pending), blk D22 (dskC gs23 gm24 v902617 (S.write aa (rep bb))) 66, blk gs23 (pgs (S.write aa (rep bb)).stable) 31, mapR gm24 (S.write aa (rep bb)).cnt (S.write aa (rep bb)).bad, row kWr rfl 71 v902617 (S.write aa (rep bb)).pending, blk g76 [.int .i64 0, .int .i64 aa, .int .u8 bb, .slice A3 kp.length c3] 38, blk g34 [vs, vb, vp, .bool R.counted, .int .i64 R.left, .bool R.down] 51])) (cond (bq_ 6) (∃ (v900705 : Value), vq_ 5 = .agg ((nums .u8 (rep bb))).toArray ∧ vq_ 6 = .tuple [rkV vs vb v900705 (R.put aa (rep bb)), .int .i64 (S.writeE aa)].toArray ∧ St w (fun _ => False) w_ ([row kPg rfl 31 vs ((R.put aa (rep bb)).stable), row Kd.bool rfl 4 vb ((R.put aa (rep bb)).bad), row kWr rfl 74 v900705 ((R.put aa (rep bb)).pending), blk D22 (dskC gs23 gm24 v902617 (S.write aa (rep bb))) 66, blk gs23 (pgs (S.write aa (rep bb)).stable) 31, mapR gm24 (S.write aa (rep bb)).cnt (S.write aa (rep bb)).bad, row kWr rfl 71 v902617 (S.write aa (rep bb)).pending, blk g76 [.int .i64 0, .int .i64 aa, .int .u8 bb, .slice A3 kp.length c3] 38, blk g34 [vs, vb, vp, .bool R.counted, .int .i64 R.left, .bool R.down] 51])) (cond (bq_ 5) (vq_ 5 = .agg ((nums .u8 (rep bb))).toArray ∧ St w (fun _ => False) w_ ([blk D22 (dskC gs23 gm24 v902617 (S.write aa (rep bb))) 66, blk gs23 (pgs (S.write aa (rep bb)).stable) 31, mapR gm24 (S.write aa (rep bb)).cnt (S.write aa (rep bb)).bad, row kWr rfl 71 v902617 (S.write aa (rep bb)).pending, blk g76 [.int .i64 0, .int .i64 aa, .int .u8 bb, .slice A3 kp.length c3] 38, row kPg rfl 31 vs R.stable, row Kd.bool rfl 4 vb R.bad, row kWr rfl 74 vp R.pending, blk g34 [vs, vb, vp, .bool R.counted, .int .i64 R.left, .bool R.down] 51])) ((St w (fun _ => False) w_ ([blk D22 (dskC gs23 gm24 v902617 (S.write aa (rep bb))) 66, blk gs23 (pgs (S.write aa (rep bb)).stable) 31, mapR gm24 (S.write aa (rep bb)).cnt (S.write aa (rep bb)).bad, row kWr rfl 71 v902617 (S.write aa (rep bb)).pending, blk g76 [.int .i64 0, .int .i64 aa, .int .u8 bb, .slice A3 kp.length c3] 38, row kPg rfl 31 vs R.stable, row Kd.bool rfl 4 vb R.bad, row kWr rfl 74 vp R.pending, blk g34 [vs, vb, vp, .bool R.counted, .int .i64 R.left, .bool R.down] 51])))))))) (by kernel_rfl) rfl rfl (by kernel_rfl) (by kernel_rfl) rfl (by kernel_rfl) (by kernel_rfl) ⟨qv_none, HS.draw⟩ ?_ ?_
                · clear HS
                  intro i_ hi_ bq_ vq_ a_ w_ hG hb_ hon hoff hfr hel hval
                  obtain ⟨hV, hE⟩ := hG
                  have hi_ := List.mem_range.1 hi_
                  obtain ⟨l_, rfl⟩ := hfr
                  have hv_ := fun (j t : Nat) (v : Value) (h1 : (j, t) ∈ [(0, 51), (1, 52), (2, 53), (3, 54), (4, 55), (5, 56), (6, 57), (7, 50), (8, 58), (9, 59), (11, 10)]) h2 h3 => (hval (j, t) h1 h3).trans (congrArg some (hV j v h2 h3))
                  have hcs : i_ = 0 ∨ i_ = 1 ∨ i_ = 2 ∨ i_ = 3 ∨ i_ = 4 ∨ i_ = 5 ∨ i_ = 6 ∨ i_ = 7 ∨ i_ = 8 ∨ i_ = 9 ∨ i_ = 10 ∨ i_ = 11 := by omega
                  rcases hcs with rfl | rfl | rfl | rfl | rfl | rfl | rfl | rfl | rfl | rfl | rfl | rfl
                  · rcases hq5 : bq_ 5 with _ | _
                    · skip
                      have hE0 := hE
                      rw [show bq_ 10 = false from (hoff 10 (by decide))] at hE0
                      rw [show bq_ 8 = false from (hoff 8 (by decide))] at hE0
                      rw [show bq_ 7 = false from (hoff 7 (by decide))] at hE0
                      rw [show bq_ 6 = false from (hoff 6 (by decide))] at hE0
                      rw [show bq_ 5 = false from hq5] at hE0
                      simp only [cond_true, cond_false] at hE0
                      have HS := hE0
                      have e6 : evl l_ (.tmp 6) = .pointer (some ⟨g34, 0, none⟩) := evl_of ((hel 6 (by decide)).trans rfl)
                      exact ⟨_, rfl, fun K_ hK_ => q_op _ (x_loads [vs, vb, vp, .bool R.counted, .int .i64 R.left, .bool R.down] 6 rfl e6 (bkCells (HS.get (.tail _ (.tail _ (.tail _ (.tail _ (.tail _ (.tail _ (.tail _ (.tail _ (.head _)))))))))) 0 _ rfl) (by rfl) (by kernel_rfl) rfl) (hK_ _ _ ⟨qv_up hV (fun _ h => Option.some.inj h), hE⟩)⟩
                    · have hE0 := hE
                      rw [show bq_ 10 = false from (hoff 10 (by decide))] at hE0
                      rw [show bq_ 8 = false from (hoff 8 (by decide))] at hE0
                      rw [show bq_ 7 = false from (hoff 7 (by decide))] at hE0
                      rw [show bq_ 6 = false from (hoff 6 (by decide))] at hE0
                      rw [show bq_ 5 = true from hq5] at hE0
                      simp only [cond_true, cond_false] at hE0
                      obtain ⟨hv5, HS⟩ := hE0
                      have e6 : evl l_ (.tmp 6) = .pointer (some ⟨g34, 0, none⟩) := evl_of ((hel 6 (by decide)).trans rfl)
                      exact ⟨_, rfl, fun K_ hK_ => q_op _ (x_loads [vs, vb, vp, .bool R.counted, .int .i64 R.left, .bool R.down] 6 rfl e6 (bkCells (HS.get (.tail _ (.tail _ (.tail _ (.tail _ (.tail _ (.tail _ (.tail _ (.tail _ (.head _)))))))))) 0 _ rfl) (by rfl) (by kernel_rfl) rfl) (hK_ _ _ ⟨qv_up hV (fun _ h => Option.some.inj h), hE⟩)⟩
                  · have e8 : evl l_ (.tmp 8) = .pointer (some ⟨g76, 0, none⟩) := evl_of ((hel 8 (by decide)).trans rfl)
                    exact ⟨_, rfl, fun K_ hK_ => q_op _ (x_field (j := 1) _ _ rfl e8 Try.underlying38 rfl (by rfl) rfl) (hK_ _ _ ⟨qv_up hV (fun _ h => Option.some.inj h), hE⟩)⟩
                  · rcases hq5 : bq_ 5 with _ | _
                    · skip
                      have hE0 := hE
                      rw [show bq_ 10 = false from (hoff 10 (by decide))] at hE0
                      rw [show bq_ 8 = false from (hoff 8 (by decide))] at hE0
                      rw [show bq_ 7 = false from (hoff 7 (by decide))] at hE0
                      rw [show bq_ 6 = false from (hoff 6 (by decide))] at hE0
                      rw [show bq_ 5 = false from hq5] at hE0
                      simp only [cond_true, cond_false] at hE0
                      have HS := hE0
                      have e52 : evl l_ (.tmp 52) = .pointer (some ⟨g76, 1, none⟩) := evl_of (hv_ 1 52 _ (by decide) rfl (hon 1 (by decide)))
                      exact ⟨_, rfl, fun K_ hK_ => q_op _ (x_load (.int .i64 aa) rfl e52 (bkCell (HS.get (.tail _ (.tail _ (.tail _ (.tail _ (.head _)))))) 1 _ rfl) (by rfl)) (hK_ _ _ ⟨qv_up hV (fun _ h => Option.some.inj h), hE⟩)⟩
                    · have hE0 := hE
                      rw [show bq_ 10 = false from (hoff 10 (by decide))] at hE0
                      rw [show bq_ 8 = false from (hoff 8 (by decide))] at hE0
                      rw [show bq_ 7 = false from (hoff 7 (by decide))] at hE0
                      rw [show bq_ 6 = false from (hoff 6 (by decide))] at hE0
                      rw [show bq_ 5 = true from hq5] at hE0
                      simp only [cond_true, cond_false] at hE0
                      obtain ⟨hv5, HS⟩ := hE0
                      have e52 : evl l_ (.tmp 52) = .pointer (some ⟨g76, 1, none⟩) := evl_of (hv_ 1 52 _ (by decide) rfl (hon 1 (by decide)))
                      exact ⟨_, rfl, fun K_ hK_ => q_op _ (x_load (.int .i64 aa) rfl e52 (bkCell (HS.get (.tail _ (.tail _ (.tail _ (.tail _ (.head _)))))) 1 _ rfl) (by rfl)) (hK_ _ _ ⟨qv_up hV (fun _ h => Option.some.inj h), hE⟩)⟩
                  · have e8 : evl l_ (.tmp 8) = .pointer (some ⟨g76, 0, none⟩) := evl_of ((hel 8 (by decide)).trans rfl)
                    exact ⟨_, rfl, fun K_ hK_ => q_op _ (x_field (j := 2) _ _ rfl e8 Try.underlying38 rfl (by rfl) rfl) (hK_ _ _ ⟨qv_up hV (fun _ h => Option.some.inj h), hE⟩)⟩
                  · have hE0 := hE
                    rw [show bq_ 10 = false from (hoff 10 (by decide))] at hE0
                    rw [show bq_ 8 = false from (hoff 8 (by decide))] at hE0
                    rw [show bq_ 7 = false from (hoff 7 (by decide))] at hE0
                    rw [show bq_ 6 = false from (hoff 6 (by decide))] at hE0
                    rw [show bq_ 5 = false from (hoff 5 (by decide))] at hE0
                    simp only [cond_true, cond_false] at hE0
                    have HS := hE0
                    have e54 : evl l_ (.tmp 54) = .pointer (some ⟨g76, 2, none⟩) := evl_of (hv_ 3 54 _ (by decide) rfl (hon 3 (by decide)))
                    exact ⟨_, rfl, fun K_ hK_ => q_op _ (x_load (.int .u8 bb) rfl e54 (bkCell (HS.get (.tail _ (.tail _ (.tail _ (.tail _ (.head _)))))) 2 _ rfl) (by rfl)) (hK_ _ _ ⟨qv_up hV (fun _ h => Option.some.inj h), hE⟩)⟩
                  · have h55 : (fr l_).tmps[55]? = some (.int .u8 bb) := hv_ 4 55 _ (by decide) rfl (hon 4 (by decide))
                    have hE0 := hE
                    rw [show bq_ 10 = false from (hoff 10 (by decide))] at hE0
                    rw [show bq_ 8 = false from (hoff 8 (by decide))] at hE0
                    rw [show bq_ 7 = false from (hoff 7 (by decide))] at hE0
                    rw [show bq_ 6 = false from (hoff 6 (by decide))] at hE0
                    rw [show bq_ 5 = false from hb_] at hE0
                    simp only [cond_true, cond_false] at hE0
                    have HS := hE0
                    have e55 : evl l_ (.tmp 55) = .int .u8 bb := evl_of h55
                    refine ⟨_, rfl, fun K_ hK_ => wp_of_list rfl ?_⟩
                    intro ops_
                    refine w_call [.int .u8 bb] Try.func14 (by kernel_rfl) (by rfl) (by simp only [List.map_cons, List.map_nil, e55] <;> rfl) ?_
                    refine (full_any HS bb).mono ?_
                    clear HS
                    rintro e w900501 ⟨rfl, HS⟩
                    refine ⟨_, rfl, ?_⟩
                    refine wpList_nil ?_
                    refine norm_put (hK_ (.agg ((nums .u8 (rep bb))).toArray) _ ⟨qv_up hV (by intro _ h; cases h), ?_⟩)
                    show cond (bq_ 10) _ _
                    rw [show bq_ 10 = false from hoff 10 (by decide), cond_false]
                    show cond (bq_ 8) _ _
                    rw [show bq_ 8 = false from hoff 8 (by decide), cond_false]
                    show cond (bq_ 7) _ _
                    rw [show bq_ 7 = false from hoff 7 (by decide), cond_false]
                    show cond (bq_ 6) _ _
                    rw [show bq_ 6 = false from hoff 6 (by decide), cond_false]
                    show cond true _ _
                    rw [cond_true]
                    exact ⟨rfl, (((((((((HS.front 8 rfl).front 8 rfl).front 8 rfl).front 8 rfl).front 8 rfl).front 8 rfl).front 8 rfl).front 8 rfl).front 8 rfl)⟩
                  · have h51 : (fr l_).tmps[51]? = some (rkV vs vb vp R) := hv_ 0 51 _ (by decide) rfl (hon 0 (by decide))
                    have h53 : (fr l_).tmps[53]? = some (.int .i64 aa) := hv_ 2 53 _ (by decide) rfl (hon 2 (by decide))
                    have h56 := hval (5, 56) (by decide) (hon 5 (by decide))
                    have hE0 := hE
                    rw [show bq_ 10 = false from (hoff 10 (by decide))] at hE0
                    rw [show bq_ 8 = false from (hoff 8 (by decide))] at hE0
                    rw [show bq_ 7 = false from (hoff 7 (by decide))] at hE0
                    rw [show bq_ 6 = false from hb_] at hE0
                    rw [show bq_ 5 = true from (hon 5 (by decide))] at hE0
                    simp only [cond_true, cond_false] at hE0
                    obtain ⟨hv5, HS⟩ := hE0
                    rw [hv5] at h56
                    have e51 : evl l_ (.tmp 51) = rkV vs vb vp R := evl_of h51
                    have e53 : evl l_ (.tmp 53) = .int .i64 aa := evl_of h53
                    have e56 : evl l_ (.tmp 56) = .agg ((nums .u8 (rep bb))).toArray := evl_of h56
                    refine ⟨_, rfl, fun K_ hK_ => wp_of_list rfl ?_⟩
                    intro ops_
                    refine w_call [rkV vs vb vp R, .int .i64 aa, .agg ((nums .u8 (rep bb))).toArray] Try.func23 (by kernel_rfl) (by rfl) (by simp only [List.map_cons, List.map_nil, e51, e53, e56] <;> rfl) ?_
                    replace HS := (((HS.front 7 rfl).front 7 rfl).front 7 rfl)
                    refine (rkPut_any HS hRO.hl (Nat.le_trans hRO.hpn (by omega)) aa (rep bb) (rep_len _)).mono ?_
                    clear HS
                    rintro e w900602 ⟨v900601, he_, HS⟩
                    rw [(rd_write hRD aa (rep bb)).2] at he_
                    subst he_
                    refine ⟨_, rfl, ?_⟩
                    refine wpList_nil ?_
                    refine norm_put (hK_ (.tuple ([rkV vs vb v900601 (R.put aa (rep bb)), .int .i64 (S.writeE aa)] : List Value).toArray) _ ⟨qv_up hV (by intro _ h; cases h), ?_⟩)
                    show cond (bq_ 10) _ _
                    rw [show bq_ 10 = false from hoff 10 (by decide), cond_false]
                    show cond (bq_ 8) _ _
                    rw [show bq_ 8 = false from hoff 8 (by decide), cond_false]
                    show cond (bq_ 7) _ _
                    rw [show bq_ 7 = false from hoff 7 (by decide), cond_false]
                    show cond true _ _
                    rw [cond_true]
                    exact ⟨v900601, hv5, rfl, (((((((((HS.front 8 rfl).front 8 rfl).front 8 rfl).front 8 rfl).front 8 rfl).front 8 rfl).front 8 rfl).front 8 rfl).front 8 rfl)⟩
                  · have h57 := hval (6, 57) (by decide) (hon 6 (by decide))
                    have hE0 := hE
                    rw [show bq_ 10 = false from (hoff 10 (by decide))] at hE0
                    rw [show bq_ 8 = false from (hoff 8 (by decide))] at hE0
                    rw [show bq_ 7 = false from hb_] at hE0
                    rw [show bq_ 6 = true from (hon 6 (by decide))] at hE0
                    simp only [cond_true, cond_false] at hE0
                    obtain ⟨v900705, hv5, hv6, HS⟩ := hE0
                    rw [hv6] at h57
                    have e57 : evl l_ (.tmp 57) = .tuple [rkV vs vb v900705 (R.put aa (rep bb)), .int .i64 (S.writeE aa)].toArray := evl_of h57
                    refine ⟨_, rfl, fun K_ hK_ => wp_of_list rfl ?_⟩
                    intro ops_
                    refine p_run (l' := _) _ (x_move (.tuple [rkV vs vb v900705 (R.put aa (rep bb)), .int .i64 (S.writeE aa)].toArray) rfl e57) rfl ?_
                    refine wpList_nil ?_
                    refine norm_put (hK_ (.tuple ([rkV vs vb v900705 (R.put aa (rep bb)), .int .i64 (S.writeE aa)] : List Value).toArray) _ ⟨qv_up hV (by intro _ h; cases h), ?_⟩)
                    show cond (bq_ 10) _ _
                    rw [show bq_ 10 = false from hoff 10 (by decide), cond_false]
                    show cond (bq_ 8) _ _
                    rw [show bq_ 8 = false from hoff 8 (by decide), cond_false]
                    show cond true _ _
                    rw [cond_true]
                    exact ⟨v900705, hv5, hv6, rfl, (((((((((HS.front 8 rfl).front 8 rfl).front 8 rfl).front 8 rfl).front 8 rfl).front 8 rfl).front 8 rfl).front 8 rfl).front 8 rfl)⟩
                  · have h50 := hval (7, 50) (by decide) (hon 7 (by decide))
                    have hE0 := hE
                    rw [show bq_ 10 = false from (hoff 10 (by decide))] at hE0
                    rw [show bq_ 8 = false from hb_] at hE0
                    rw [show bq_ 7 = true from (hon 7 (by decide))] at hE0
                    simp only [cond_true, cond_false] at hE0
                    obtain ⟨v900705, hv5, hv6, hv7, HS⟩ := hE0
                    rw [hv7] at h50
                    have e50 : evl l_ (.tmp 50) = .tuple [rkV vs vb v900705 (R.put aa (rep bb)), .int .i64 (S.writeE aa)].toArray := evl_of h50
                    refine ⟨_, rfl, fun K_ hK_ => wp_of_list rfl ?_⟩
                    intro ops_
                    refine p_run (l' := _) _ (x_extract (vs := [rkV vs vb v900705 (R.put aa (rep bb)), .int .i64 (S.writeE aa)]) 0 (rkV vs vb v900705 (R.put aa (rep bb))) rfl e50 rfl) rfl ?_
                    refine wpList_nil ?_
                    refine norm_put (hK_ (rkV vs vb v900705 (R.put aa (rep bb))) _ ⟨qv_up hV (by intro _ h; cases h), ?_⟩)
                    show cond (bq_ 10) _ _
                    rw [show bq_ 10 = false from hoff 10 (by decide), cond_false]
                    show cond true _ _
                    rw [cond_true]
                    exact ⟨v900705, hv5, hv6, hv7, rfl, (((((((((HS.front 8 rfl).front 8 rfl).front 8 rfl).front 8 rfl).front 8 rfl).front 8 rfl).front 8 rfl).front 8 rfl).front 8 rfl)⟩
                  · have h50 := hval (7, 50) (by decide) (hon 7 (by decide))
                    rcases hq10 : bq_ 10 with _ | _
                    · skip
                      rcases hq8 : bq_ 8 with _ | _
                      · skip
                        have hE0 := hE
                        rw [show bq_ 10 = false from hq10] at hE0
                        rw [show bq_ 8 = false from hq8] at hE0
                        rw [show bq_ 7 = true from (hon 7 (by decide))] at hE0
                        simp only [cond_true, cond_false] at hE0
                        obtain ⟨v900705, hv5, hv6, hv7, HS⟩ := hE0
                        rw [hv7] at h50
                        have e50 : evl l_ (.tmp 50) = .tuple [rkV vs vb v900705 (R.put aa (rep bb)), .int .i64 (S.writeE aa)].toArray := evl_of h50
                        exact ⟨_, rfl, fun K_ hK_ => q_op _ (x_extract (vs := [rkV vs vb v900705 (R.put aa (rep bb)), .int .i64 (S.writeE aa)]) 1 (.int .i64 (S.writeE aa)) rfl e50 rfl) (hK_ _ _ ⟨qv_up hV (fun _ h => Option.some.inj h), hE⟩)⟩
                      · have hE0 := hE
                        rw [show bq_ 10 = false from hq10] at hE0
                        rw [show bq_ 8 = true from hq8] at hE0
                        simp only [cond_true, cond_false] at hE0
                        obtain ⟨v900705, hv5, hv6, hv7, hv8, HS⟩ := hE0
                        rw [hv7] at h50
                        have e50 : evl l_ (.tmp 50) = .tuple [rkV vs vb v900705 (R.put aa (rep bb)), .int .i64 (S.writeE aa)].toArray := evl_of h50
                        exact ⟨_, rfl, fun K_ hK_ => q_op _ (x_extract (vs := [rkV vs vb v900705 (R.put aa (rep bb)), .int .i64 (S.writeE aa)]) 1 (.int .i64 (S.writeE aa)) rfl e50 rfl) (hK_ _ _ ⟨qv_up hV (fun _ h => Option.some.inj h), hE⟩)⟩
                    · have hE0 := hE
                      rw [show bq_ 10 = true from hq10] at hE0
                      simp only [cond_true, cond_false] at hE0
                      obtain ⟨v900705, hv5, hv6, hv7, hv8, HS⟩ := hE0
                      rw [hv7] at h50
                      have e50 : evl l_ (.tmp 50) = .tuple [rkV vs vb v900705 (R.put aa (rep bb)), .int .i64 (S.writeE aa)].toArray := evl_of h50
                      exact ⟨_, rfl, fun K_ hK_ => q_op _ (x_extract (vs := [rkV vs vb v900705 (R.put aa (rep bb)), .int .i64 (S.writeE aa)]) 1 (.int .i64 (S.writeE aa)) rfl e50 rfl) (hK_ _ _ ⟨qv_up hV (fun _ h => Option.some.inj h), hE⟩)⟩
                  · have h6 : (fr l_).tmps[6]? = some (.pointer (some ⟨g34, 0, none⟩)) := (hel 6 (by decide)).trans rfl
                    have h58 := hval (8, 58) (by decide) (hon 8 (by decide))
                    have hE0 := hE
                    rw [show bq_ 10 = false from hb_] at hE0
                    rw [show bq_ 8 = true from (hon 8 (by decide))] at hE0
                    simp only [cond_true, cond_false] at hE0
                    obtain ⟨v900705, hv5, hv6, hv7, hv8, HS⟩ := hE0
                    rw [hv8] at h58
                    have e6 : evl l_ (.tmp 6) = .pointer (some ⟨g34, 0, none⟩) := evl_of h6
                    have e58 : evl l_ (.tmp 58) = rkV vs vb v900705 (R.put aa (rep bb)) := evl_of h58
                    refine ⟨_, rfl, fun K_ hK_ => wp_of_list rfl ?_⟩
                    intro ops_
                    refine St.stores (cs' := [vs, vb, v900705, .bool ((R.put aa (rep bb)).counted), .int .i64 ((R.put aa (rep bb)).left), .bool ((R.put aa (rep bb)).down)]) (HS.front 8 rfl) [vs, vb, v900705, .bool ((R.put aa (rep bb)).counted), .int .i64 ((R.put aa (rep bb)).left), .bool ((R.put aa (rep bb)).down)] 6 e6 e58 (all1 (row_one (HS.get (.head _))) (all1 (row_one (HS.get (.tail _ (.head _)))) (all1 (row_one (HS.get (.tail _ (.tail _ (.head _))))) (all1 rfl (all1 rfl (all1 rfl rfl)))))) (by kernel_rfl) rfl (by simp) rfl ?_
                    clear HS
                    intro w901001 HS
                    refine wpList_nil ?_
                    refine norm_none (hK_ undef _ ⟨qv_up hV (by intro _ h; cases h), ?_⟩)
                    show cond true _ _
                    rw [cond_true]
                    exact ⟨v900705, hv5, hv6, hv7, hv8, (((((((((HS.front 8 rfl).front 8 rfl).front 8 rfl).front 8 rfl).front 8 rfl).front 8 rfl).front 8 rfl).front 8 rfl).front 8 rfl)⟩
                  · have e59 : evl l_ (.tmp 59) = .int .i64 (S.writeE aa) := evl_of (hv_ 9 59 _ (by decide) rfl (hon 9 (by decide)))
                    exact ⟨_, rfl, fun K_ hK_ => q_op _ (x_assign (.int .i64 (S.writeE aa)) rfl e59) (hK_ _ _ ⟨qv_up hV (fun _ h => Option.some.inj h), hE⟩)⟩
                intro bq_ vq_ w_ hall hG
                obtain ⟨hV, hE⟩ := hG
                clear HS
                rw [show bq_ 10 = true from hall 10 (by decide)] at hE
                simp only [cond_true] at hE
                obtain ⟨v900705, hv5, hv6, hv7, hv8, HS⟩ := hE
                have hv0 := hV 0 _ rfl (hall 0 (by decide))
                have hv1 := hV 1 _ rfl (hall 1 (by decide))
                have hv2 := hV 2 _ rfl (hall 2 (by decide))
                have hv3 := hV 3 _ rfl (hall 3 (by decide))
                have hv4 := hV 4 _ rfl (hall 4 (by decide))
                have hv9 := hV 9 _ rfl (hall 9 (by decide))
                have hv11 := hV 11 _ rfl (hall 11 (by decide))
                clear hV hall
                rw [putSel_fr]
                simp only [tells, List.map_cons, List.map_nil, setAll, List.set_cons_succ, List.set_cons_zero, hv0, hv1, hv2, hv3, hv4, hv5, hv6, hv7, hv8, hv9, hv11]
                clear hv0 hv1 hv2 hv3 hv4 hv5 hv6 hv7 hv8 hv9 hv11
                generalize w_ = w901002 at HS ⊢
                refine fr_at (l' := (.int .i64 pages :: .slice (some ad) l1.length c1 :: undef :: undef :: q44.a :: .pointer (some ⟨D22, 0, none⟩) :: .pointer (some ⟨g34, 0, none⟩) :: undef :: .pointer (some ⟨g76, 0, none⟩) :: .int .i64 (S.writeE aa) :: .int .i64 (S.writeE aa) :: q44.e :: q44.f :: q44.g :: q44.h :: PR_ pages ad l1 c1 D22 v31 v32 (.int .i64 (i : Int) :: .bool (decide ((i : Int) < (l1.length : Int))) :: .pointer (some ((ad).add (i * 4))) :: .agg ([.int .i64 0, .int .i64 aa, .int .u8 bb, .slice A3 kp.length c3] : List Value).toArray :: .pointer (some ⟨g76, 0, none⟩) :: .int .i64 0 :: .bool true :: .bool true :: .pointer (some ⟨D22, 0, none⟩) :: .pointer (some ⟨g76, 1, none⟩) :: .int .i64 aa :: .pointer (some ⟨g76, 2, none⟩) :: .int .u8 bb :: .agg ((nums .u8 (rep bb))).toArray :: .int .i64 (S.writeE aa) :: .tuple [rkV vs vb v900705 (R.put aa (rep bb)), .int .i64 (S.writeE aa)].toArray :: rkV vs vb vp R :: .pointer (some ⟨g76, 1, none⟩) :: .int .i64 aa :: .pointer (some ⟨g76, 2, none⟩) :: .int .u8 bb :: .agg ((nums .u8 (rep bb))).toArray :: .tuple [rkV vs vb v900705 (R.put aa (rep bb)), .int .i64 (S.writeE aa)].toArray :: rkV vs vb v900705 (R.put aa (rep bb)) :: .int .i64 (S.writeE aa) :: V8.l q48 (V8.l q49 (V8.l q50 (V8.l q51 (V8.l q52 (V8.l q53 (V8.l q54 (V8.l q55 (V8.l q56 (V8.l q57 (V8.l q58 (q59.a :: q59.b :: q59.c :: q59.d :: U32L4g (U8L4g (undef :: [])))))))))))))))) rfl ?_
                exact hT86 (S.write aa (rep bb)) (R.put aa (rep bb)) v902617 vs vb v900705 (S.writeE aa) ⟨.pointer (some ⟨g76, 0, none⟩), .int .i64 0, .bool true, .bool true, .pointer (some ⟨D22, 0, none⟩), .pointer (some ⟨g76, 1, none⟩), .int .i64 aa, .pointer (some ⟨g76, 2, none⟩)⟩ ⟨.int .u8 bb, .agg ((nums .u8 (rep bb))).toArray, .int .i64 (S.writeE aa), .tuple [rkV vs vb v900705 (R.put aa (rep bb)), .int .i64 (S.writeE aa)].toArray, rkV vs vb vp R, .pointer (some ⟨g76, 1, none⟩), .int .i64 aa, .pointer (some ⟨g76, 2, none⟩)⟩ ⟨.int .u8 bb, .agg ((nums .u8 (rep bb))).toArray, .tuple [rkV vs vb v900705 (R.put aa (rep bb)), .int .i64 (S.writeE aa)].toArray, rkV vs vb v900705 (R.put aa (rep bb)), .int .i64 (S.writeE aa), q48.a, q48.b, q48.c⟩ ⟨q48.d, q48.e, q48.f, q48.g, q48.h, q49.a, q49.b, q49.c⟩ ⟨q49.d, q49.e, q49.f, q49.g, q49.h, q50.a, q50.b, q50.c⟩ ⟨q50.d, q50.e, q50.f, q50.g, q50.h, q51.a, q51.b, q51.c⟩ ⟨q51.d, q51.e, q51.f, q51.g, q51.h, q52.a, q52.b, q52.c⟩ ⟨q52.d, q52.e, q52.f, q52.g, q52.h, q53.a, q53.b, q53.c⟩ ⟨q53.d, q53.e, q53.f, q53.g, q53.h, q54.a, undef, undef⟩ _ (((((((((HS.front 8 rfl).front 1 rfl).front 4 rfl).front 4 rfl).front 4 rfl).front 8 rfl).front 8 rfl).front 8 rfl).front 8 rfl) ⟨(rd_write hRD _ _).1, good_write hG _ (rep_len _)⟩
              · skip
                refine c_region (fun ops901004 hops901003 => ?_)
                clear hops901003
                refine p_run (l' := _) _ (x_cmp (k := .i64) (m := 1) (n := 0) .eql false rfl rfl rfl (by decide) rfl) rfl ?_
                refine p_run (l' := _) _ (x_assign (.bool false) rfl rfl) rfl ?_
                refine wpList_nil ?_
                refine hK902609 _ _ ?_
                refine c_false rfl ?_
                refine wp_seq_k (fun K901005 hK901006 => ?_)
                refine c_region (fun ops901008 hops901007 => ?_)
                clear hops901007
                refine p_run (l' := _) _ (x_cmp (k := .i64) (m := 1) (n := 1) .eql true rfl rfl rfl (by decide) rfl) rfl ?_
                refine p_run (l' := _) _ (x_assign (.bool true) rfl rfl) rfl ?_
                refine wpList_nil ?_
                refine hK901006 _ _ ?_
                refine c_true rfl ?_
                refine wp_seq_k (fun K901009 hK901010 => ?_)
                refine c_region (fun ops901012 hops901011 => ?_)
                clear hops901011
                refine p_run (l' := _) _ (x_move (.pointer (some ⟨D22, 0, none⟩)) rfl rfl) rfl ?_
                refine w_call [.pointer (some ⟨D22, 0, none⟩)] Try.func12 (by kernel_rfl) (by rfl) rfl ?_
                replace HS := ((((HS.front 4 rfl).front 4 rfl).front 4 rfl).front 4 rfl)
                refine (sync_any HS hG.ok (by have := hG.pn; omega)).mono ?_
                clear HS
                rintro e w901014 ⟨v901013, rfl, HS⟩
                have hgd901015 : Dk.good S.sync (i) := good_sync hG
                refine ⟨_, rfl, ?_⟩
                refine p_run (l' := (.int .i64 pages :: .slice (some ad) l1.length c1 :: undef :: undef :: q44.a :: .pointer (some ⟨D22, 0, none⟩) :: .pointer (some ⟨g34, 0, none⟩) :: undef :: .pointer (some ⟨g76, 0, none⟩) :: .int .i64 S.actE :: .int .i64 0 :: q44.e :: q44.f :: q44.g :: q44.h :: PR_ pages ad l1 c1 D22 v31 v32 (.int .i64 (i : Int) :: .bool (decide ((i : Int) < (l1.length : Int))) :: .pointer (some ((ad).add (i * 4))) :: .agg ([.int .i64 1, .int .i64 aa, .int .u8 bb, .slice A3 kp.length c3] : List Value).toArray :: .pointer (some ⟨g76, 0, none⟩) :: .int .i64 1 :: .bool false :: .bool false :: q45.h :: V8.l q46 (V8.l q47 (.bool true :: .bool true :: .pointer (some ⟨D22, 0, none⟩) :: .int .i64 S.actE :: q48.e :: q48.f :: q48.g :: q48.h :: V8.l q49 (V8.l q50 (V8.l q51 (V8.l q52 (V8.l q53 (V8.l q54 (V8.l q55 (V8.l q56 (V8.l q57 (V8.l q58 (q59.a :: q59.b :: q59.c :: q59.d :: U32L4g (U8L4g (undef :: []))))))))))))))))) _ (x_assign (.int .i64 S.actE) rfl rfl) rfl ?_
                refine wpList_nil ?_
                refine hK901010 _ _ ?_
                refine c_region (fun ops901017 hops901016 => ?_)
                clear hops901016
                refine p_run (l' := _) _ (x_loads [vs, vb, vp, .bool R.counted, .int .i64 R.left, .bool R.down] 6 rfl rfl (bkCells (HS.get (.tail _ (.tail _ (.tail _ (.tail _ (.tail _ (.tail _ (.tail _ (.tail _ (.head _)))))))))) 0 _ rfl) (by rfl) (by kernel_rfl) rfl) rfl ?_
                refine w_call [rkV vs vb vp R] Try.func24 (by kernel_rfl) (by rfl) rfl ?_
                replace HS := (((HS.front 7 rfl).front 7 rfl).front 7 rfl)
                refine (rkSync_any HS hRO.hT hRO.hpd (Nat.le_trans hRO.hpn (by omega)) hRO.hsl hRO.hl).mono ?_
                clear HS
                rintro e w901020 ⟨v901018, v901019, he_, HS⟩
                rw [rd_actE hRD] at he_
                subst he_
                refine ⟨_, rfl, ?_⟩
                refine p_run (l' := _) _ (x_move (.tuple [rkV v901018 vb v901019 R.sync, .int .i64 S.actE].toArray) rfl rfl) rfl ?_
                refine p_run (l' := _) _ (x_extract (vs := [rkV v901018 vb v901019 R.sync, .int .i64 S.actE]) 0 (rkV v901018 vb v901019 R.sync) rfl rfl rfl) rfl ?_
                refine p_run (l' := _) _ (x_extract (vs := [rkV v901018 vb v901019 R.sync, .int .i64 S.actE]) 1 (.int .i64 S.actE) rfl rfl rfl) rfl ?_
                refine St.stores (cs' := [v901018, vb, v901019, .bool R.sync.counted, .int .i64 R.sync.left, .bool R.sync.down]) (HS.front 8 rfl) [v901018, vb, v901019, .bool R.sync.counted, .int .i64 R.sync.left, .bool R.sync.down] 6 rfl rfl (all1 (row_one (HS.get (.head _))) (all1 (row_one (HS.get (.tail _ (.head _)))) (all1 (row_one (HS.get (.tail _ (.tail _ (.head _))))) (all1 rfl (all1 rfl (all1 rfl rfl)))))) (by kernel_rfl) rfl (by simp) rfl ?_
                clear HS
                intro w901021 HS
                refine p_run (l' := _) _ (x_assign (.int .i64 S.actE) rfl rfl) rfl ?_
                refine wpList_nil ?_
                refine fr_at (l' := (.int .i64 pages :: .slice (some ad) l1.length c1 :: undef :: undef :: q44.a :: .pointer (some ⟨D22, 0, none⟩) :: .pointer (some ⟨g34, 0, none⟩) :: undef :: .pointer (some ⟨g76, 0, none⟩) :: .int .i64 S.actE :: .int .i64 S.actE :: q44.e :: q44.f :: q44.g :: q44.h :: PR_ pages ad l1 c1 D22 v31 v32 (.int .i64 (i : Int) :: .bool (decide ((i : Int) < (l1.length : Int))) :: .pointer (some ((ad).add (i * 4))) :: .agg ([.int .i64 1, .int .i64 aa, .int .u8 bb, .slice A3 kp.length c3] : List Value).toArray :: .pointer (some ⟨g76, 0, none⟩) :: .int .i64 1 :: .bool false :: .bool false :: q45.h :: V8.l q46 (V8.l q47 (.bool true :: .bool true :: .pointer (some ⟨D22, 0, none⟩) :: .int .i64 S.actE :: .tuple [rkV v901018 vb v901019 R.sync, .int .i64 S.actE].toArray :: rkV vs vb vp R :: .tuple [rkV v901018 vb v901019 R.sync, .int .i64 S.actE].toArray :: rkV v901018 vb v901019 R.sync :: .int .i64 S.actE :: q49.b :: q49.c :: q49.d :: q49.e :: q49.f :: q49.g :: q49.h :: V8.l q50 (V8.l q51 (V8.l q52 (V8.l q53 (V8.l q54 (V8.l q55 (V8.l q56 (V8.l q57 (V8.l q58 (q59.a :: q59.b :: q59.c :: q59.d :: U32L4g (U8L4g (undef :: [])))))))))))))))) rfl ?_
                exact hT86 S.sync R.sync v901013 v901018 vb v901019 S.actE ⟨.pointer (some ⟨g76, 0, none⟩), .int .i64 1, .bool false, .bool false, q45.h, q46.a, q46.b, q46.c⟩ ⟨q46.d, q46.e, q46.f, q46.g, q46.h, q47.a, q47.b, q47.c⟩ ⟨q47.d, q47.e, q47.f, q47.g, q47.h, .bool true, .bool true, .pointer (some ⟨D22, 0, none⟩)⟩ ⟨.int .i64 S.actE, .tuple [rkV v901018 vb v901019 R.sync, .int .i64 S.actE].toArray, rkV vs vb vp R, .tuple [rkV v901018 vb v901019 R.sync, .int .i64 S.actE].toArray, rkV v901018 vb v901019 R.sync, .int .i64 S.actE, q49.b, q49.c⟩ ⟨q49.d, q49.e, q49.f, q49.g, q49.h, q50.a, q50.b, q50.c⟩ ⟨q50.d, q50.e, q50.f, q50.g, q50.h, q51.a, q51.b, q51.c⟩ ⟨q51.d, q51.e, q51.f, q51.g, q51.h, q52.a, q52.b, q52.c⟩ ⟨q52.d, q52.e, q52.f, q52.g, q52.h, q53.a, q53.b, q53.c⟩ ⟨q53.d, q53.e, q53.f, q53.g, q53.h, q54.a, undef, undef⟩ _ (((((((((HS.front 8 rfl).front 1 rfl).front 4 rfl).front 4 rfl).front 4 rfl).front 8 rfl).front 8 rfl).front 8 rfl).front 8 rfl) ⟨rd_sync hRD hG, (good_sync hG).mono (Nat.le_succ _)⟩
              · skip
                refine c_region (fun ops901023 hops901022 => ?_)
                clear hops901022
                refine p_run (l' := _) _ (x_cmp (k := .i64) (m := 2) (n := 0) .eql false rfl rfl rfl (by decide) rfl) rfl ?_
                refine p_run (l' := _) _ (x_assign (.bool false) rfl rfl) rfl ?_
                refine wpList_nil ?_
                refine hK902609 _ _ ?_
                refine c_false rfl ?_
                refine wp_seq_k (fun K901024 hK901025 => ?_)
                refine c_region (fun ops901027 hops901026 => ?_)
                clear hops901026
                refine p_run (l' := _) _ (x_cmp (k := .i64) (m := 2) (n := 1) .eql false rfl rfl rfl (by decide) rfl) rfl ?_
                refine p_run (l' := _) _ (x_assign (.bool false) rfl rfl) rfl ?_
                refine wpList_nil ?_
                refine hK901025 _ _ ?_
                refine c_false rfl ?_
                refine wp_seq_k (fun K901028 hK901029 => ?_)
                refine c_region (fun ops901031 hops901030 => ?_)
                clear hops901030
                refine p_run (l' := _) _ (x_cmp (k := .i64) (m := 2) (n := 2) .eql true rfl rfl rfl (by decide) rfl) rfl ?_
                refine p_run (l' := _) _ (x_assign (.bool true) rfl rfl) rfl ?_
                refine wpList_nil ?_
                refine fr_at (l' := (.int .i64 pages :: .slice (some ad) l1.length c1 :: undef :: undef :: q44.a :: .pointer (some ⟨D22, 0, none⟩) :: .pointer (some ⟨g34, 0, none⟩) :: undef :: .pointer (some ⟨g76, 0, none⟩) :: .int .i64 0 :: .int .i64 0 :: q44.e :: q44.f :: q44.g :: q44.h :: PR_ pages ad l1 c1 D22 v31 v32 (.int .i64 (i : Int) :: .bool (decide ((i : Int) < (l1.length : Int))) :: .pointer (some ((ad).add (i * 4))) :: .agg ([.int .i64 2, .int .i64 aa, .int .u8 bb, .slice A3 kp.length c3] : List Value).toArray :: .pointer (some ⟨g76, 0, none⟩) :: .int .i64 2 :: .bool false :: .bool false :: q45.h :: V8.l q46 (V8.l q47 (.bool false :: .bool false :: q48.c :: q48.d :: q48.e :: q48.f :: q48.g :: q48.h :: q49.a :: .bool true :: .bool true :: q49.d :: q49.e :: q49.f :: q49.g :: q49.h :: V8.l q50 (V8.l q51 (V8.l q52 (V8.l q53 (V8.l q54 (V8.l q55 (V8.l q56 (V8.l q57 (V8.l q58 (q59.a :: q59.b :: q59.c :: q59.d :: U32L4g (U8L4g (undef :: [])))))))))))))))) rfl ?_
                refine hK901029 _ _ ?_
                refine c_true rfl ?_
                refine wp_seq_k (fun K901032 hK901033 => ?_)
                refine c_region (fun ops901035 hops901034 => ?_)
                clear hops901034
                refine p_run (l' := _) _ (x_move (.pointer (some ⟨D22, 0, none⟩)) rfl rfl) rfl ?_
                refine p_run (l' := _) _ (x_field (j := 1) _ _ rfl rfl Try.underlying38 rfl (by rfl) rfl) rfl ?_
                refine p_run (l' := _) _ (x_load (.int .i64 aa) rfl rfl (bkCell (HS.get (.head _)) 1 _ rfl) (by rfl)) rfl ?_
                refine w_call [.pointer (some ⟨D22, 0, none⟩), .int .i64 aa] Try.func11 (by kernel_rfl) (by rfl) rfl ?_
                replace HS := ((((HS.front 4 rfl).front 4 rfl).front 4 rfl).front 4 rfl)
                refine (cut_any HS aa).mono ?_
                clear HS
                rintro e w901036 ⟨rfl, HS⟩
                have hgd901037 : Dk.good (S.cut aa) (i) := good_cut hG aa (by omega)
                refine ⟨_, rfl, ?_⟩
                refine wpList_nil ?_
                refine hK901033 _ _ ?_
                refine c_region (fun ops901039 hops901038 => ?_)
                clear hops901038
                refine p_run (l' := _) _ (x_loads [vs, vb, vp, .bool R.counted, .int .i64 R.left, .bool R.down] 6 rfl rfl (bkCells (HS.get (.tail _ (.tail _ (.tail _ (.tail _ (.tail _ (.tail _ (.tail _ (.tail _ (.head _)))))))))) 0 _ rfl) (by rfl) (by kernel_rfl) rfl) rfl ?_
                refine p_run (l' := _) _ (x_field (j := 1) _ _ rfl rfl Try.underlying38 rfl (by rfl) rfl) rfl ?_
                refine p_run (l' := (.int .i64 pages :: .slice (some ad) l1.length c1 :: undef :: undef :: q44.a :: .pointer (some ⟨D22, 0, none⟩) :: .pointer (some ⟨g34, 0, none⟩) :: undef :: .pointer (some ⟨g76, 0, none⟩) :: .int .i64 0 :: .int .i64 0 :: q44.e :: q44.f :: q44.g :: q44.h :: PR_ pages ad l1 c1 D22 v31 v32 (.int .i64 (i : Int) :: .bool (decide ((i : Int) < (l1.length : Int))) :: .pointer (some ((ad).add (i * 4))) :: .agg ([.int .i64 2, .int .i64 aa, .int .u8 bb, .slice A3 kp.length c3] : List Value).toArray :: .pointer (some ⟨g76, 0, none⟩) :: .int .i64 2 :: .bool false :: .bool false :: q45.h :: V8.l q46 (V8.l q47 (.bool false :: .bool false :: q48.c :: q48.d :: q48.e :: q48.f :: q48.g :: q48.h :: q49.a :: .bool true :: .bool true :: .pointer (some ⟨D22, 0, none⟩) :: .pointer (some ⟨g76, 1, none⟩) :: .int .i64 aa :: .tuple [].toArray :: rkV vs vb vp R :: .pointer (some ⟨g76, 1, none⟩) :: .int .i64 aa :: q50.c :: q50.d :: q50.e :: q50.f :: q50.g :: q50.h :: V8.l q51 (V8.l q52 (V8.l q53 (V8.l q54 (V8.l q55 (V8.l q56 (V8.l q57 (V8.l q58 (q59.a :: q59.b :: q59.c :: q59.d :: U32L4g (U8L4g (undef :: []))))))))))))))) _ (x_load (.int .i64 aa) rfl rfl (bkCell (HS.get (.tail _ (.tail _ (.tail _ (.tail _ (.head _)))))) 1 _ rfl) (by rfl)) rfl ?_
                refine w_call [rkV vs vb vp R, .int .i64 aa] Try.func25 (by kernel_rfl) (by rfl) rfl ?_
                replace HS := (((HS.front 7 rfl).front 7 rfl).front 7 rfl)
                refine (rkCut_any HS aa).mono ?_
                clear HS
                rintro e w901040 ⟨rfl, HS⟩
                refine ⟨_, rfl, ?_⟩
                refine St.stores (cs' := [vs, vb, vp, .bool ((R.cut aa).counted), .int .i64 ((R.cut aa).left), .bool ((R.cut aa).down)]) (HS.front 8 rfl) [vs, vb, vp, .bool ((R.cut aa).counted), .int .i64 ((R.cut aa).left), .bool ((R.cut aa).down)] 6 rfl rfl (all1 (row_one (HS.get (.head _))) (all1 (row_one (HS.get (.tail _ (.head _)))) (all1 (row_one (HS.get (.tail _ (.tail _ (.head _))))) (all1 rfl (all1 rfl (all1 rfl rfl)))))) (by kernel_rfl) rfl (by simp) rfl ?_
                clear HS
                intro w901041 HS
                refine wpList_nil ?_
                refine fr_at (l' := (.int .i64 pages :: .slice (some ad) l1.length c1 :: undef :: undef :: q44.a :: .pointer (some ⟨D22, 0, none⟩) :: .pointer (some ⟨g34, 0, none⟩) :: undef :: .pointer (some ⟨g76, 0, none⟩) :: .int .i64 0 :: .int .i64 0 :: q44.e :: q44.f :: q44.g :: q44.h :: PR_ pages ad l1 c1 D22 v31 v32 (.int .i64 (i : Int) :: .bool (decide ((i : Int) < (l1.length : Int))) :: .pointer (some ((ad).add (i * 4))) :: .agg ([.int .i64 2, .int .i64 aa, .int .u8 bb, .slice A3 kp.length c3] : List Value).toArray :: .pointer (some ⟨g76, 0, none⟩) :: .int .i64 2 :: .bool false :: .bool false :: q45.h :: V8.l q46 (V8.l q47 (.bool false :: .bool false :: q48.c :: q48.d :: q48.e :: q48.f :: q48.g :: q48.h :: q49.a :: .bool true :: .bool true :: .pointer (some ⟨D22, 0, none⟩) :: .pointer (some ⟨g76, 1, none⟩) :: .int .i64 aa :: .tuple [].toArray :: rkV vs vb vp R :: .pointer (some ⟨g76, 1, none⟩) :: .int .i64 aa :: rkV vs vb vp (R.cut aa) :: q50.d :: q50.e :: q50.f :: q50.g :: q50.h :: V8.l q51 (V8.l q52 (V8.l q53 (V8.l q54 (V8.l q55 (V8.l q56 (V8.l q57 (V8.l q58 (q59.a :: q59.b :: q59.c :: q59.d :: U32L4g (U8L4g (undef :: []))))))))))))))) rfl ?_
                exact hT86 (S.cut aa) (R.cut aa) v vs vb vp 0 ⟨.pointer (some ⟨g76, 0, none⟩), .int .i64 2, .bool false, .bool false, q45.h, q46.a, q46.b, q46.c⟩ ⟨q46.d, q46.e, q46.f, q46.g, q46.h, q47.a, q47.b, q47.c⟩ ⟨q47.d, q47.e, q47.f, q47.g, q47.h, .bool false, .bool false, q48.c⟩ ⟨q48.d, q48.e, q48.f, q48.g, q48.h, q49.a, .bool true, .bool true⟩ ⟨.pointer (some ⟨D22, 0, none⟩), .pointer (some ⟨g76, 1, none⟩), .int .i64 aa, .tuple [].toArray, rkV vs vb vp R, .pointer (some ⟨g76, 1, none⟩), .int .i64 aa, rkV vs vb vp (R.cut aa)⟩ ⟨q50.d, q50.e, q50.f, q50.g, q50.h, q51.a, q51.b, q51.c⟩ ⟨q51.d, q51.e, q51.f, q51.g, q51.h, q52.a, q52.b, q52.c⟩ ⟨q52.d, q52.e, q52.f, q52.g, q52.h, q53.a, q53.b, q53.c⟩ ⟨q53.d, q53.e, q53.f, q53.g, q53.h, q54.a, undef, undef⟩ _ (((((((((HS.front 8 rfl).front 1 rfl).front 4 rfl).front 4 rfl).front 4 rfl).front 8 rfl).front 8 rfl).front 8 rfl).front 8 rfl) ⟨rd_cut hRD _, (good_cut hG _ (by omega)).mono (Nat.le_succ _)⟩
              · skip
                refine c_region (fun ops901043 hops901042 => ?_)
                clear hops901042
                refine p_run (l' := _) _ (x_cmp (k := .i64) (m := 3) (n := 0) .eql false rfl rfl rfl (by decide) rfl) rfl ?_
                refine p_run (l' := _) _ (x_assign (.bool false) rfl rfl) rfl ?_
                refine wpList_nil ?_
                refine hK902609 _ _ ?_
                refine c_false rfl ?_
                refine wp_seq_k (fun K901044 hK901045 => ?_)
                refine c_region (fun ops901047 hops901046 => ?_)
                clear hops901046
                refine p_run (l' := _) _ (x_cmp (k := .i64) (m := 3) (n := 1) .eql false rfl rfl rfl (by decide) rfl) rfl ?_
                refine p_run (l' := _) _ (x_assign (.bool false) rfl rfl) rfl ?_
                refine wpList_nil ?_
                refine hK901045 _ _ ?_
                refine c_false rfl ?_
                refine wp_seq_k (fun K901048 hK901049 => ?_)
                refine c_region (fun ops901051 hops901050 => ?_)
                clear hops901050
                refine p_run (l' := _) _ (x_cmp (k := .i64) (m := 3) (n := 2) .eql false rfl rfl rfl (by decide) rfl) rfl ?_
                refine p_run (l' := _) _ (x_assign (.bool false) rfl rfl) rfl ?_
                refine wpList_nil ?_
                refine fr_at (l' := (.int .i64 pages :: .slice (some ad) l1.length c1 :: undef :: undef :: q44.a :: .pointer (some ⟨D22, 0, none⟩) :: .pointer (some ⟨g34, 0, none⟩) :: undef :: .pointer (some ⟨g76, 0, none⟩) :: .int .i64 0 :: .int .i64 0 :: q44.e :: q44.f :: q44.g :: q44.h :: PR_ pages ad l1 c1 D22 v31 v32 (.int .i64 (i : Int) :: .bool (decide ((i : Int) < (l1.length : Int))) :: .pointer (some ((ad).add (i * 4))) :: .agg ([.int .i64 3, .int .i64 aa, .int .u8 bb, .slice A3 kp.length c3] : List Value).toArray :: .pointer (some ⟨g76, 0, none⟩) :: .int .i64 3 :: .bool false :: .bool false :: q45.h :: V8.l q46 (V8.l q47 (.bool false :: .bool false :: q48.c :: q48.d :: q48.e :: q48.f :: q48.g :: q48.h :: q49.a :: .bool false :: .bool false :: q49.d :: q49.e :: q49.f :: q49.g :: q49.h :: V8.l q50 (V8.l q51 (V8.l q52 (V8.l q53 (V8.l q54 (V8.l q55 (V8.l q56 (V8.l q57 (V8.l q58 (q59.a :: q59.b :: q59.c :: q59.d :: U32L4g (U8L4g (undef :: [])))))))))))))))) rfl ?_
                refine hK901049 _ _ ?_
                refine c_false rfl ?_
                refine wp_seq_k (fun K901052 hK901053 => ?_)
                refine c_region (fun ops901055 hops901054 => ?_)
                clear hops901054
                refine p_run (l' := _) _ (x_cmp (k := .i64) (m := 3) (n := 3) .eql true rfl rfl rfl (by decide) rfl) rfl ?_
                refine p_run (l' := _) _ (x_assign (.bool true) rfl rfl) rfl ?_
                refine wpList_nil ?_
                refine hK901053 _ _ ?_
                refine c_true rfl ?_
                refine wp_seq_k (fun K901056 hK901057 => ?_)
                refine c_region (fun ops901059 hops901058 => ?_)
                clear hops901058
                refine p_run (l' := _) _ (x_move (.pointer (some ⟨D22, 0, none⟩)) rfl rfl) rfl ?_
                refine p_run (l' := _) _ (x_field (j := 3) _ _ rfl rfl Try.underlying38 rfl (by rfl) rfl) rfl ?_
                refine p_run (l' := _) _ (x_load (.slice A3 kp.length c3) rfl rfl (bkCell (HS.get (.head _)) 3 _ rfl) (by rfl)) rfl ?_
                refine w_call [.pointer (some ⟨D22, 0, none⟩), .slice A3 kp.length c3] Try.func16 (by kernel_rfl) (by rfl) rfl ?_
                replace HS := ((((HS.front 4 rfl).front 4 rfl).front 4 rfl).front 4 rfl)
                refine (crash_any HS hG.ok (by have := hG.pn; omega) kp hkp (fun w X hx => Kd.C_below hC3 hx.belowOf)).mono ?_
                clear HS
                rintro e w901061 ⟨v901060, rfl, HS⟩
                have hgd901062 : Dk.good (S.crash kp) (i) := good_crash hG _
                refine ⟨_, rfl, ?_⟩
                refine wpList_nil ?_
                refine fr_at (l' := (.int .i64 pages :: .slice (some ad) l1.length c1 :: undef :: undef :: q44.a :: .pointer (some ⟨D22, 0, none⟩) :: .pointer (some ⟨g34, 0, none⟩) :: undef :: .pointer (some ⟨g76, 0, none⟩) :: .int .i64 0 :: .int .i64 0 :: q44.e :: q44.f :: q44.g :: q44.h :: PR_ pages ad l1 c1 D22 v31 v32 (.int .i64 (i : Int) :: .bool (decide ((i : Int) < (l1.length : Int))) :: .pointer (some ((ad).add (i * 4))) :: .agg ([.int .i64 3, .int .i64 aa, .int .u8 bb, .slice A3 kp.length c3] : List Value).toArray :: .pointer (some ⟨g76, 0, none⟩) :: .int .i64 3 :: .bool false :: .bool false :: q45.h :: V8.l q46 (V8.l q47 (.bool false :: .bool false :: q48.c :: q48.d :: q48.e :: q48.f :: q48.g :: q48.h :: q49.a :: .bool false :: .bool false :: q49.d :: q49.e :: q49.f :: q49.g :: q49.h :: q50.a :: q50.b :: q50.c :: .bool true :: .bool true :: .pointer (some ⟨D22, 0, none⟩) :: .pointer (some ⟨g76, 3, none⟩) :: .slice A3 kp.length c3 :: .tuple [].toArray :: q51.b :: q51.c :: q51.d :: q51.e :: q51.f :: q51.g :: q51.h :: V8.l q52 (V8.l q53 (V8.l q54 (V8.l q55 (V8.l q56 (V8.l q57 (V8.l q58 (q59.a :: q59.b :: q59.c :: q59.d :: U32L4g (U8L4g (undef :: [])))))))))))))) rfl ?_
                refine hK901057 _ _ ?_
                refine c_region (fun ops901064 hops901063 => ?_)
                clear hops901063
                refine p_run (l' := _) _ (x_loads [vs, vb, vp, .bool R.counted, .int .i64 R.left, .bool R.down] 6 rfl rfl (bkCells (HS.get (.tail _ (.tail _ (.tail _ (.tail _ (.tail _ (.tail _ (.tail _ (.tail _ (.head _)))))))))) 0 _ rfl) (by rfl) (by kernel_rfl) rfl) rfl ?_
                refine p_run (l' := _) _ (x_field (j := 3) _ _ rfl rfl Try.underlying38 rfl (by rfl) rfl) rfl ?_
                refine p_run (l' := _) _ (x_load (.slice A3 kp.length c3) rfl rfl (bkCell (HS.get (.tail _ (.tail _ (.tail _ (.tail _ (.head _)))))) 3 _ rfl) (by rfl)) rfl ?_
                refine w_call [rkV vs vb vp R, .slice A3 kp.length c3] Try.func26 (by kernel_rfl) (by rfl) rfl ?_
                replace HS := (((HS.front 7 rfl).front 7 rfl).front 7 rfl)
                refine (rkCrash_any HS hRO.hT hRO.hpd (Nat.le_trans hRO.hpn (by omega)) hRO.hsl kp hkp (fun w X hx => Kd.C_below hC3 hx.belowOf)).mono ?_
                clear HS
                rintro e w901066 ⟨v901065, rfl, HS⟩
                refine ⟨_, rfl, ?_⟩
                refine St.stores (cs' := [v901065, vb, .slice none 0 0, .bool ((R.crash kp).counted), .int .i64 ((R.crash kp).left), .bool ((R.crash kp).down)]) (HS.front 8 rfl) [v901065, vb, .slice none 0 0, .bool ((R.crash kp).counted), .int .i64 ((R.crash kp).left), .bool ((R.crash kp).down)] 6 rfl rfl (all1 (row_one (HS.get (.head _))) (all1 (row_one (HS.get (.tail _ (.head _)))) (all1 rfl (all1 rfl (all1 rfl (all1 rfl rfl)))))) (by kernel_rfl) rfl (by simp) rfl ?_
                clear HS
                intro w901067 HS
                refine wpList_nil ?_
                refine fr_at (l' := (.int .i64 pages :: .slice (some ad) l1.length c1 :: undef :: undef :: q44.a :: .pointer (some ⟨D22, 0, none⟩) :: .pointer (some ⟨g34, 0, none⟩) :: undef :: .pointer (some ⟨g76, 0, none⟩) :: .int .i64 0 :: .int .i64 0 :: q44.e :: q44.f :: q44.g :: q44.h :: PR_ pages ad l1 c1 D22 v31 v32 (.int .i64 (i : Int) :: .bool (decide ((i : Int) < (l1.length : Int))) :: .pointer (some ((ad).add (i * 4))) :: .agg ([.int .i64 3, .int .i64 aa, .int .u8 bb, .slice A3 kp.length c3] : List Value).toArray :: .pointer (some ⟨g76, 0, none⟩) :: .int .i64 3 :: .bool false :: .bool false :: q45.h :: V8.l q46 (V8.l q47 (.bool false :: .bool false :: q48.c :: q48.d :: q48.e :: q48.f :: q48.g :: q48.h :: q49.a :: .bool false :: .bool false :: q49.d :: q49.e :: q49.f :: q49.g :: q49.h :: q50.a :: q50.b :: q50.c :: .bool true :: .bool true :: .pointer (some ⟨D22, 0, none⟩) :: .pointer (some ⟨g76, 3, none⟩) :: .slice A3 kp.length c3 :: .tuple [].toArray :: rkV vs vb vp R :: .pointer (some ⟨g76, 3, none⟩) :: .slice A3 kp.length c3 :: rkV v901065 vb (.slice none 0 0) (R.crash kp) :: q51.f :: q51.g :: q51.h :: V8.l q52 (V8.l q53 (V8.l q54 (V8.l q55 (V8.l q56 (V8.l q57 (V8.l q58 (q59.a :: q59.b :: q59.c :: q59.d :: U32L4g (U8L4g (undef :: [])))))))))))))) rfl ?_
                exact hT86 (S.crash kp) (R.crash kp) v901060 v901065 vb (.slice none 0 0) 0 ⟨.pointer (some ⟨g76, 0, none⟩), .int .i64 3, .bool false, .bool false, q45.h, q46.a, q46.b, q46.c⟩ ⟨q46.d, q46.e, q46.f, q46.g, q46.h, q47.a, q47.b, q47.c⟩ ⟨q47.d, q47.e, q47.f, q47.g, q47.h, .bool false, .bool false, q48.c⟩ ⟨q48.d, q48.e, q48.f, q48.g, q48.h, q49.a, .bool false, .bool false⟩ ⟨q49.d, q49.e, q49.f, q49.g, q49.h, q50.a, q50.b, q50.c⟩ ⟨.bool true, .bool true, .pointer (some ⟨D22, 0, none⟩), .pointer (some ⟨g76, 3, none⟩), .slice A3 kp.length c3, .tuple [].toArray, rkV vs vb vp R, .pointer (some ⟨g76, 3, none⟩)⟩ ⟨.slice A3 kp.length c3, rkV v901065 vb (.slice none 0 0) (R.crash kp), q51.f, q51.g, q51.h, q52.a, q52.b, q52.c⟩ ⟨q52.d, q52.e, q52.f, q52.g, q52.h, q53.a, q53.b, q53.c⟩ ⟨q53.d, q53.e, q53.f, q53.g, q53.h, q54.a, undef, undef⟩ _ (((((((((HS.front 8 rfl).front 1 rfl).front 4 rfl).front 4 rfl).front 4 rfl).front 8 rfl).front 8 rfl).front 8 rfl).front 8 rfl) ⟨rd_crash hRD hG _, (good_crash hG _).mono (Nat.le_succ _)⟩
              · skip
                refine c_region (fun ops901069 hops901068 => ?_)
                clear hops901068
                refine p_run (l' := _) _ (x_cmp (k := .i64) (m := 4) (n := 0) .eql false rfl rfl rfl (by decide) rfl) rfl ?_
                refine p_run (l' := _) _ (x_assign (.bool false) rfl rfl) rfl ?_
                refine wpList_nil ?_
                refine hK902609 _ _ ?_
                refine c_false rfl ?_
                refine wp_seq_k (fun K901070 hK901071 => ?_)
                refine c_region (fun ops901073 hops901072 => ?_)
                clear hops901072
                refine p_run (l' := _) _ (x_cmp (k := .i64) (m := 4) (n := 1) .eql false rfl rfl rfl (by decide) rfl) rfl ?_
                refine p_run (l' := _) _ (x_assign (.bool false) rfl rfl) rfl ?_
                refine wpList_nil ?_
                refine hK901071 _ _ ?_
                refine c_false rfl ?_
                refine wp_seq_k (fun K901074 hK901075 => ?_)
                refine c_region (fun ops901077 hops901076 => ?_)
                clear hops901076
                refine p_run (l' := _) _ (x_cmp (k := .i64) (m := 4) (n := 2) .eql false rfl rfl rfl (by decide) rfl) rfl ?_
                refine p_run (l' := _) _ (x_assign (.bool false) rfl rfl) rfl ?_
                refine wpList_nil ?_
                refine fr_at (l' := (.int .i64 pages :: .slice (some ad) l1.length c1 :: undef :: undef :: q44.a :: .pointer (some ⟨D22, 0, none⟩) :: .pointer (some ⟨g34, 0, none⟩) :: undef :: .pointer (some ⟨g76, 0, none⟩) :: .int .i64 0 :: .int .i64 0 :: q44.e :: q44.f :: q44.g :: q44.h :: PR_ pages ad l1 c1 D22 v31 v32 (.int .i64 (i : Int) :: .bool (decide ((i : Int) < (l1.length : Int))) :: .pointer (some ((ad).add (i * 4))) :: .agg ([.int .i64 4, .int .i64 aa, .int .u8 bb, .slice A3 kp.length c3] : List Value).toArray :: .pointer (some ⟨g76, 0, none⟩) :: .int .i64 4 :: .bool false :: .bool false :: q45.h :: V8.l q46 (V8.l q47 (.bool false :: .bool false :: q48.c :: q48.d :: q48.e :: q48.f :: q48.g :: q48.h :: q49.a :: .bool false :: .bool false :: q49.d :: q49.e :: q49.f :: q49.g :: q49.h :: V8.l q50 (V8.l q51 (V8.l q52 (V8.l q53 (V8.l q54 (V8.l q55 (V8.l q56 (V8.l q57 (V8.l q58 (q59.a :: q59.b :: q59.c :: q59.d :: U32L4g (U8L4g (undef :: [])))))))))))))))) rfl ?_
                refine hK901075 _ _ ?_
                refine c_false rfl ?_
                refine wp_seq_k (fun K901078 hK901079 => ?_)
                refine c_region (fun ops901081 hops901080 => ?_)
                clear hops901080
                refine p_run (l' := _) _ (x_cmp (k := .i64) (m := 4) (n := 3) .eql false rfl rfl rfl (by decide) rfl) rfl ?_
                refine p_run (l' := _) _ (x_assign (.bool false) rfl rfl) rfl ?_
                refine wpList_nil ?_
                refine hK901079 _ _ ?_
                refine c_false rfl ?_
                refine wp_seq_k (fun K901082 hK901083 => ?_)
                refine wp_seq_k (fun K901084 hK901085 => ?_)
                refine c_region (fun ops901087 hops901086 => ?_)
                clear hops901086
                refine p_run (l' := _) _ (x_cmp (k := .i64) (m := 4) (n := 4) .eql true rfl rfl rfl (by decide) rfl) rfl ?_
                refine p_run (l' := _) _ (x_assign (.bool true) rfl rfl) rfl ?_
                refine wpList_nil ?_
                refine hK901085 _ _ ?_
                refine c_true rfl ?_
                refine wp_skip ?_
                refine hK901083 _ _ ?_
                refine c_true rfl ?_
                refine wp_seq_k (fun K901088 hK901089 => ?_)
                refine c_region (fun ops901091 hops901090 => ?_)
                clear hops901090
                refine p_run (l' := _) _ (x_move (.pointer (some ⟨D22, 0, none⟩)) rfl rfl) rfl ?_
                refine p_run (l' := _) _ (x_field (j := 1) _ _ rfl rfl Try.underlying38 rfl (by rfl) rfl) rfl ?_
                refine p_run (l' := (.int .i64 pages :: .slice (some ad) l1.length c1 :: undef :: undef :: q44.a :: .pointer (some ⟨D22, 0, none⟩) :: .pointer (some ⟨g34, 0, none⟩) :: undef :: .pointer (some ⟨g76, 0, none⟩) :: .int .i64 0 :: .int .i64 0 :: q44.e :: q44.f :: q44.g :: q44.h :: PR_ pages ad l1 c1 D22 v31 v32 (.int .i64 (i : Int) :: .bool (decide ((i : Int) < (l1.length : Int))) :: .pointer (some ((ad).add (i * 4))) :: .agg ([.int .i64 4, .int .i64 aa, .int .u8 bb, .slice A3 kp.length c3] : List Value).toArray :: .pointer (some ⟨g76, 0, none⟩) :: .int .i64 4 :: .bool false :: .bool false :: q45.h :: V8.l q46 (V8.l q47 (.bool false :: .bool false :: q48.c :: q48.d :: q48.e :: q48.f :: q48.g :: q48.h :: q49.a :: .bool false :: .bool false :: q49.d :: q49.e :: q49.f :: q49.g :: q49.h :: q50.a :: q50.b :: q50.c :: .bool false :: .bool false :: q50.f :: q50.g :: q50.h :: q51.a :: q51.b :: q51.c :: q51.d :: q51.e :: .bool true :: .bool true :: q51.h :: .pointer (some ⟨D22, 0, none⟩) :: .pointer (some ⟨g76, 1, none⟩) :: .int .i64 aa :: q52.d :: q52.e :: q52.f :: q52.g :: q52.h :: V8.l q53 (V8.l q54 (V8.l q55 (V8.l q56 (V8.l q57 (V8.l q58 (q59.a :: q59.b :: q59.c :: q59.d :: U32L4g (U8L4g (undef :: []))))))))))))) _ (x_load (.int .i64 aa) rfl rfl (bkCell (HS.get (.head _)) 1 _ rfl) (by rfl)) rfl ?_
                refine p_run (l' := _) _ (x_field (j := 0) _ _ rfl rfl Try.underlying38 rfl (by rfl) rfl) rfl ?_
                refine p_run (l' := _) _ (x_load (.int .i64 4) rfl rfl (bkCell (HS.get (.head _)) 0 _ rfl) (by rfl)) rfl ?_
                refine p_run (l' := _) _ (x_cmp (k := .i64) (m := 4) (n := 4) .eql true rfl rfl rfl (by decide) rfl) rfl ?_
                refine w_call [.pointer (some ⟨D22, 0, none⟩), .int .i64 aa, .bool true] Try.func20 (by kernel_rfl) (by rfl) rfl ?_
                replace HS := ((((HS.front 4 rfl).front 4 rfl).front 4 rfl).front 4 rfl)
                refine (spoil_any HS hG.ok (by have := hG.cn; omega) aa true).mono ?_
                clear HS
                rintro e w901092 ⟨rfl, HS⟩
                have hgd901093 : Dk.good (S.spoil aa true) (i + 1) := good_spoil hG aa true
                refine ⟨_, rfl, ?_⟩
                refine p_run (l' := _) _ (x_assign (.int .i64 (S.pageE aa)) rfl rfl) rfl ?_
                refine wpList_nil ?_
                refine fr_at (l' := (.int .i64 pages :: .slice (some ad) l1.length c1 :: undef :: undef :: q44.a :: .pointer (some ⟨D22, 0, none⟩) :: .pointer (some ⟨g34, 0, none⟩) :: undef :: .pointer (some ⟨g76, 0, none⟩) :: .int .i64 (S.pageE aa) :: .int .i64 0 :: q44.e :: q44.f :: q44.g :: q44.h :: PR_ pages ad l1 c1 D22 v31 v32 (.int .i64 (i : Int) :: .bool (decide ((i : Int) < (l1.length : Int))) :: .pointer (some ((ad).add (i * 4))) :: .agg ([.int .i64 4, .int .i64 aa, .int .u8 bb, .slice A3 kp.length c3] : List Value).toArray :: .pointer (some ⟨g76, 0, none⟩) :: .int .i64 4 :: .bool false :: .bool false :: q45.h :: V8.l q46 (V8.l q47 (.bool false :: .bool false :: q48.c :: q48.d :: q48.e :: q48.f :: q48.g :: q48.h :: q49.a :: .bool false :: .bool false :: q49.d :: q49.e :: q49.f :: q49.g :: q49.h :: q50.a :: q50.b :: q50.c :: .bool false :: .bool false :: q50.f :: q50.g :: q50.h :: q51.a :: q51.b :: q51.c :: q51.d :: q51.e :: .bool true :: .bool true :: q51.h :: .pointer (some ⟨D22, 0, none⟩) :: .pointer (some ⟨g76, 1, none⟩) :: .int .i64 aa :: .pointer (some ⟨g76, 0, none⟩) :: .int .i64 4 :: .bool true :: .int .i64 (S.pageE aa) :: q52.h :: V8.l q53 (V8.l q54 (V8.l q55 (V8.l q56 (V8.l q57 (V8.l q58 (q59.a :: q59.b :: q59.c :: q59.d :: U32L4g (U8L4g (undef :: []))))))))))))) rfl ?_
                refine hK901089 _ _ ?_
                refine c_region (fun ops901095 hops901094 => ?_)
                clear hops901094
                refine p_run (l' := _) _ (x_loads [vs, vb, vp, .bool R.counted, .int .i64 R.left, .bool R.down] 6 rfl rfl (bkCells (HS.get (.tail _ (.tail _ (.tail _ (.tail _ (.tail _ (.tail _ (.tail _ (.tail _ (.head _)))))))))) 0 _ rfl) (by rfl) (by kernel_rfl) rfl) rfl ?_
                refine p_run (l' := _) _ (x_field (j := 1) _ _ rfl rfl Try.underlying38 rfl (by rfl) rfl) rfl ?_
                refine p_run (l' := _) _ (x_load (.int .i64 aa) rfl rfl (bkCell (HS.get (.tail _ (.tail _ (.tail _ (.tail _ (.head _)))))) 1 _ rfl) (by rfl)) rfl ?_
                refine p_run (l' := _) _ (x_field (j := 0) _ _ rfl rfl Try.underlying38 rfl (by rfl) rfl) rfl ?_
                refine p_run (l' := _) _ (x_load (.int .i64 4) rfl rfl (bkCell (HS.get (.tail _ (.tail _ (.tail _ (.tail _ (.head _)))))) 0 _ rfl) (by rfl)) rfl ?_
                refine p_run (l' := _) _ (x_cmp (k := .i64) (m := 4) (n := 4) .eql true rfl rfl rfl (by decide) rfl) rfl ?_
                refine w_call [rkV vs vb vp R, .int .i64 aa, .bool true] Try.func27 (by kernel_rfl) (by rfl) rfl ?_
                replace HS := (((HS.front 7 rfl).front 7 rfl).front 7 rfl)
                refine (rkSpoil_any HS hRO.hb hRO.hsl aa true).mono ?_
                clear HS
                rintro e w901097 ⟨v901096, he_, HS⟩
                rw [(rd_spoil hRD aa true).2] at he_
                subst he_
                refine ⟨_, rfl, ?_⟩
                refine fr_to (l' := (.int .i64 pages :: .slice (some ad) l1.length c1 :: undef :: undef :: q44.a :: .pointer (some ⟨D22, 0, none⟩) :: .pointer (some ⟨g34, 0, none⟩) :: undef :: .pointer (some ⟨g76, 0, none⟩) :: .int .i64 (S.pageE aa) :: .int .i64 0 :: q44.e :: q44.f :: q44.g :: q44.h :: PR_ pages ad l1 c1 D22 v31 v32 (.int .i64 (i : Int) :: .bool (decide ((i : Int) < (l1.length : Int))) :: .pointer (some ((ad).add (i * 4))) :: .agg ([.int .i64 4, .int .i64 aa, .int .u8 bb, .slice A3 kp.length c3] : List Value).toArray :: .pointer (some ⟨g76, 0, none⟩) :: .int .i64 4 :: .bool false :: .bool false :: q45.h :: V8.l q46 (V8.l q47 (.bool false :: .bool false :: q48.c :: q48.d :: q48.e :: q48.f :: q48.g :: q48.h :: q49.a :: .bool false :: .bool false :: q49.d :: q49.e :: q49.f :: q49.g :: q49.h :: q50.a :: q50.b :: q50.c :: .bool false :: .bool false :: q50.f :: q50.g :: q50.h :: q51.a :: q51.b :: q51.c :: q51.d :: q51.e :: .bool true :: .bool true :: q51.h :: .pointer (some ⟨D22, 0, none⟩) :: .pointer (some ⟨g76, 1, none⟩) :: .int .i64 aa :: .pointer (some ⟨g76, 0, none⟩) :: .int .i64 4 :: .bool true :: .int .i64 (S.pageE aa) :: q52.h :: rkV vs vb vp R :: .pointer (some ⟨g76, 1, none⟩) :: .int .i64 aa :: .pointer (some ⟨g76, 0, none⟩) :: .int .i64 4 :: .bool true :: .tuple [rkV vs v901096 vp (R.spoil aa true), .int .i64 (S.pageE aa)].toArray :: q53.h :: V8.l q54 (V8.l q55 (V8.l q56 (V8.l q57 (V8.l q58 (q59.a :: q59.b :: q59.c :: q59.d :: U32L4g (U8L4g (undef :: [])))))))))))) rfl ?_
                refine p_run (l' := _) _ (x_move (.tuple [rkV vs v901096 vp (R.spoil aa true), .int .i64 (S.pageE aa)].toArray) rfl rfl) rfl ?_
                refine p_run (l' := _) _ (x_extract (vs := [rkV vs v901096 vp (R.spoil aa true), .int .i64 (S.pageE aa)]) 0 (rkV vs v901096 vp (R.spoil aa true)) rfl rfl rfl) rfl ?_
                refine p_run (l' := _) _ (x_extract (vs := [rkV vs v901096 vp (R.spoil aa true), .int .i64 (S.pageE aa)]) 1 (.int .i64 (S.pageE aa)) rfl rfl rfl) rfl ?_
                refine St.stores (cs' := [vs, v901096, vp, .bool ((R.spoil aa true).counted), .int .i64 ((R.spoil aa true).left), .bool ((R.spoil aa true).down)]) (HS.front 8 rfl) [vs, v901096, vp, .bool ((R.spoil aa true).counted), .int .i64 ((R.spoil aa true).left), .bool ((R.spoil aa true).down)] 6 rfl rfl (all1 (row_one (HS.get (.head _))) (all1 (row_one (HS.get (.tail _ (.head _)))) (all1 (row_one (HS.get (.tail _ (.tail _ (.head _))))) (all1 rfl (all1 rfl (all1 rfl rfl)))))) (by kernel_rfl) rfl (by simp) rfl ?_
                clear HS
                intro w901098 HS
                refine p_run (l' := _) _ (x_assign (.int .i64 (S.pageE aa)) rfl rfl) rfl ?_
                refine wpList_nil ?_
                refine fr_at (l' := (.int .i64 pages :: .slice (some ad) l1.length c1 :: undef :: undef :: q44.a :: .pointer (some ⟨D22, 0, none⟩) :: .pointer (some ⟨g34, 0, none⟩) :: undef :: .pointer (some ⟨g76, 0, none⟩) :: .int .i64 (S.pageE aa) :: .int .i64 (S.pageE aa) :: q44.e :: q44.f :: q44.g :: q44.h :: PR_ pages ad l1 c1 D22 v31 v32 (.int .i64 (i : Int) :: .bool (decide ((i : Int) < (l1.length : Int))) :: .pointer (some ((ad).add (i * 4))) :: .agg ([.int .i64 4, .int .i64 aa, .int .u8 bb, .slice A3 kp.length c3] : List Value).toArray :: .pointer (some ⟨g76, 0, none⟩) :: .int .i64 4 :: .bool false :: .bool false :: q45.h :: V8.l q46 (V8.l q47 (.bool false :: .bool false :: q48.c :: q48.d :: q48.e :: q48.f :: q48.g :: q48.h :: q49.a :: .bool false :: .bool false :: q49.d :: q49.e :: q49.f :: q49.g :: q49.h :: q50.a :: q50.b :: q50.c :: .bool false :: .bool false :: q50.f :: q50.g :: q50.h :: q51.a :: q51.b :: q51.c :: q51.d :: q51.e :: .bool true :: .bool true :: q51.h :: .pointer (some ⟨D22, 0, none⟩) :: .pointer (some ⟨g76, 1, none⟩) :: .int .i64 aa :: .pointer (some ⟨g76, 0, none⟩) :: .int .i64 4 :: .bool true :: .int .i64 (S.pageE aa) :: .tuple [rkV vs v901096 vp (R.spoil aa true), .int .i64 (S.pageE aa)].toArray :: rkV vs vb vp R :: .pointer (some ⟨g76, 1, none⟩) :: .int .i64 aa :: .pointer (some ⟨g76, 0, none⟩) :: .int .i64 4 :: .bool true :: .tuple [rkV vs v901096 vp (R.spoil aa true), .int .i64 (S.pageE aa)].toArray :: rkV vs v901096 vp (R.spoil aa true) :: .int .i64 (S.pageE aa) :: q54.b :: q54.c :: q54.d :: q54.e :: q54.f :: q54.g :: q54.h :: V8.l q55 (V8.l q56 (V8.l q57 (V8.l q58 (q59.a :: q59.b :: q59.c :: q59.d :: U32L4g (U8L4g (undef :: []))))))))))) rfl ?_
                exact hT86 (S.spoil aa true) (R.spoil aa true) v vs v901096 vp (S.pageE aa) ⟨.pointer (some ⟨g76, 0, none⟩), .int .i64 4, .bool false, .bool false, q45.h, q46.a, q46.b, q46.c⟩ ⟨q46.d, q46.e, q46.f, q46.g, q46.h, q47.a, q47.b, q47.c⟩ ⟨q47.d, q47.e, q47.f, q47.g, q47.h, .bool false, .bool false, q48.c⟩ ⟨q48.d, q48.e, q48.f, q48.g, q48.h, q49.a, .bool false, .bool false⟩ ⟨q49.d, q49.e, q49.f, q49.g, q49.h, q50.a, q50.b, q50.c⟩ ⟨.bool false, .bool false, q50.f, q50.g, q50.h, q51.a, q51.b, q51.c⟩ ⟨q51.d, q51.e, .bool true, .bool true, q51.h, .pointer (some ⟨D22, 0, none⟩), .pointer (some ⟨g76, 1, none⟩), .int .i64 aa⟩ ⟨.pointer (some ⟨g76, 0, none⟩), .int .i64 4, .bool true, .int .i64 (S.pageE aa), .tuple [rkV vs v901096 vp (R.spoil aa true), .int .i64 (S.pageE aa)].toArray, rkV vs vb vp R, .pointer (some ⟨g76, 1, none⟩), .int .i64 aa⟩ ⟨.pointer (some ⟨g76, 0, none⟩), .int .i64 4, .bool true, .tuple [rkV vs v901096 vp (R.spoil aa true), .int .i64 (S.pageE aa)].toArray, rkV vs v901096 vp (R.spoil aa true), .int .i64 (S.pageE aa), undef, undef⟩ _ (((((((((HS.front 8 rfl).front 1 rfl).front 4 rfl).front 4 rfl).front 4 rfl).front 8 rfl).front 8 rfl).front 8 rfl).front 8 rfl) ⟨(rd_spoil hRD _ _).1, good_spoil hG _ _⟩
              · skip
                refine c_region (fun ops901100 hops901099 => ?_)
                clear hops901099
                refine p_run (l' := _) _ (x_cmp (k := .i64) (m := 5) (n := 0) .eql false rfl rfl rfl (by decide) rfl) rfl ?_
                refine p_run (l' := _) _ (x_assign (.bool false) rfl rfl) rfl ?_
                refine wpList_nil ?_
                refine hK902609 _ _ ?_
                refine c_false rfl ?_
                refine wp_seq_k (fun K901101 hK901102 => ?_)
                refine c_region (fun ops901104 hops901103 => ?_)
                clear hops901103
                refine p_run (l' := _) _ (x_cmp (k := .i64) (m := 5) (n := 1) .eql false rfl rfl rfl (by decide) rfl) rfl ?_
                refine p_run (l' := _) _ (x_assign (.bool false) rfl rfl) rfl ?_
                refine wpList_nil ?_
                refine hK901102 _ _ ?_
                refine c_false rfl ?_
                refine wp_seq_k (fun K901105 hK901106 => ?_)
                refine c_region (fun ops901108 hops901107 => ?_)
                clear hops901107
                refine p_run (l' := _) _ (x_cmp (k := .i64) (m := 5) (n := 2) .eql false rfl rfl rfl (by decide) rfl) rfl ?_
                refine p_run (l' := _) _ (x_assign (.bool false) rfl rfl) rfl ?_
                refine wpList_nil ?_
                refine fr_at (l' := (.int .i64 pages :: .slice (some ad) l1.length c1 :: undef :: undef :: q44.a :: .pointer (some ⟨D22, 0, none⟩) :: .pointer (some ⟨g34, 0, none⟩) :: undef :: .pointer (some ⟨g76, 0, none⟩) :: .int .i64 0 :: .int .i64 0 :: q44.e :: q44.f :: q44.g :: q44.h :: PR_ pages ad l1 c1 D22 v31 v32 (.int .i64 (i : Int) :: .bool (decide ((i : Int) < (l1.length : Int))) :: .pointer (some ((ad).add (i * 4))) :: .agg ([.int .i64 5, .int .i64 aa, .int .u8 bb, .slice A3 kp.length c3] : List Value).toArray :: .pointer (some ⟨g76, 0, none⟩) :: .int .i64 5 :: .bool false :: .bool false :: q45.h :: V8.l q46 (V8.l q47 (.bool false :: .bool false :: q48.c :: q48.d :: q48.e :: q48.f :: q48.g :: q48.h :: q49.a :: .bool false :: .bool false :: q49.d :: q49.e :: q49.f :: q49.g :: q49.h :: V8.l q50 (V8.l q51 (V8.l q52 (V8.l q53 (V8.l q54 (V8.l q55 (V8.l q56 (V8.l q57 (V8.l q58 (q59.a :: q59.b :: q59.c :: q59.d :: U32L4g (U8L4g (undef :: [])))))))))))))))) rfl ?_
                refine hK901106 _ _ ?_
                refine c_false rfl ?_
                refine wp_seq_k (fun K901109 hK901110 => ?_)
                refine c_region (fun ops901112 hops901111 => ?_)
                clear hops901111
                refine p_run (l' := _) _ (x_cmp (k := .i64) (m := 5) (n := 3) .eql false rfl rfl rfl (by decide) rfl) rfl ?_
                refine p_run (l' := _) _ (x_assign (.bool false) rfl rfl) rfl ?_
                refine wpList_nil ?_
                refine hK901110 _ _ ?_
                refine c_false rfl ?_
                refine wp_seq_k (fun K901113 hK901114 => ?_)
                refine wp_seq_k (fun K901115 hK901116 => ?_)
                refine c_region (fun ops901118 hops901117 => ?_)
                clear hops901117
                refine p_run (l' := _) _ (x_cmp (k := .i64) (m := 5) (n := 4) .eql false rfl rfl rfl (by decide) rfl) rfl ?_
                refine p_run (l' := _) _ (x_assign (.bool false) rfl rfl) rfl ?_
                refine wpList_nil ?_
                refine hK901116 _ _ ?_
                refine c_false rfl ?_
                refine c_region (fun ops901120 hops901119 => ?_)
                clear hops901119
                refine p_run (l' := _) _ (x_cmp (k := .i64) (m := 5) (n := 5) .eql true rfl rfl rfl (by decide) rfl) rfl ?_
                refine p_run (l' := _) _ (x_assign (.bool true) rfl rfl) rfl ?_
                refine wpList_nil ?_
                refine fr_at (l' := (.int .i64 pages :: .slice (some ad) l1.length c1 :: undef :: undef :: q44.a :: .pointer (some ⟨D22, 0, none⟩) :: .pointer (some ⟨g34, 0, none⟩) :: undef :: .pointer (some ⟨g76, 0, none⟩) :: .int .i64 0 :: .int .i64 0 :: q44.e :: q44.f :: q44.g :: q44.h :: PR_ pages ad l1 c1 D22 v31 v32 (.int .i64 (i : Int) :: .bool (decide ((i : Int) < (l1.length : Int))) :: .pointer (some ((ad).add (i * 4))) :: .agg ([.int .i64 5, .int .i64 aa, .int .u8 bb, .slice A3 kp.length c3] : List Value).toArray :: .pointer (some ⟨g76, 0, none⟩) :: .int .i64 5 :: .bool false :: .bool false :: q45.h :: V8.l q46 (V8.l q47 (.bool false :: .bool false :: q48.c :: q48.d :: q48.e :: q48.f :: q48.g :: q48.h :: q49.a :: .bool false :: .bool false :: q49.d :: q49.e :: q49.f :: q49.g :: q49.h :: q50.a :: q50.b :: q50.c :: .bool false :: .bool false :: q50.f :: q50.g :: q50.h :: q51.a :: q51.b :: q51.c :: q51.d :: q51.e :: .bool true :: .bool false :: .bool true :: V8.l q52 (V8.l q53 (V8.l q54 (V8.l q55 (V8.l q56 (V8.l q57 (V8.l q58 (q59.a :: q59.b :: q59.c :: q59.d :: U32L4g (U8L4g (undef :: [])))))))))))))) rfl ?_
                refine hK901114 _ _ ?_
                refine c_true rfl ?_
                refine wp_seq_k (fun K901121 hK901122 => ?_)
                refine c_region (fun ops901124 hops901123 => ?_)
                clear hops901123
                refine p_run (l' := _) _ (x_move (.pointer (some ⟨D22, 0, none⟩)) rfl rfl) rfl ?_
                refine p_run (l' := _) _ (x_field (j := 1) _ _ rfl rfl Try.underlying38 rfl (by rfl) rfl) rfl ?_
                refine p_run (l' := _) _ (x_load (.int .i64 aa) rfl rfl (bkCell (HS.get (.head _)) 1 _ rfl) (by rfl)) rfl ?_
                refine p_run (l' := _) _ (x_field (j := 0) _ _ rfl rfl Try.underlying38 rfl (by rfl) rfl) rfl ?_
                refine p_run (l' := _) _ (x_load (.int .i64 5) rfl rfl (bkCell (HS.get (.head _)) 0 _ rfl) (by rfl)) rfl ?_
                refine p_run (l' := _) _ (x_cmp (k := .i64) (m := 5) (n := 4) .eql false rfl rfl rfl (by decide) rfl) rfl ?_
                refine w_call [.pointer (some ⟨D22, 0, none⟩), .int .i64 aa, .bool false] Try.func20 (by kernel_rfl) (by rfl) rfl ?_
                replace HS := ((((HS.front 4 rfl).front 4 rfl).front 4 rfl).front 4 rfl)
                refine (spoil_any HS hG.ok (by have := hG.cn; omega) aa false).mono ?_
                clear HS
                rintro e w901125 ⟨rfl, HS⟩
                have hgd901126 : Dk.good (S.spoil aa false) (i + 1) := good_spoil hG aa false
                refine ⟨_, rfl, ?_⟩
                refine fr_to (l' := (.int .i64 pages :: .slice (some ad) l1.length c1 :: undef :: undef :: q44.a :: .pointer (some ⟨D22, 0, none⟩) :: .pointer (some ⟨g34, 0, none⟩) :: undef :: .pointer (some ⟨g76, 0, none⟩) :: .int .i64 0 :: .int .i64 0 :: q44.e :: q44.f :: q44.g :: q44.h :: PR_ pages ad l1 c1 D22 v31 v32 (.int .i64 (i : Int) :: .bool (decide ((i : Int) < (l1.length : Int))) :: .pointer (some ((ad).add (i * 4))) :: .agg ([.int .i64 5, .int .i64 aa, .int .u8 bb, .slice A3 kp.length c3] : List Value).toArray :: .pointer (some ⟨g76, 0, none⟩) :: .int .i64 5 :: .bool false :: .bool false :: q45.h :: V8.l q46 (V8.l q47 (.bool false :: .bool false :: q48.c :: q48.d :: q48.e :: q48.f :: q48.g :: q48.h :: q49.a :: .bool false :: .bool false :: q49.d :: q49.e :: q49.f :: q49.g :: q49.h :: q50.a :: q50.b :: q50.c :: .bool false :: .bool false :: q50.f :: q50.g :: q50.h :: q51.a :: q51.b :: q51.c :: q51.d :: q51.e :: .bool true :: .bool false :: .bool true :: .pointer (some ⟨D22, 0, none⟩) :: .pointer (some ⟨g76, 1, none⟩) :: .int .i64 aa :: .pointer (some ⟨g76, 0, none⟩) :: .int .i64 5 :: .bool false :: .int .i64 (S.pageE aa) :: q52.h :: V8.l q53 (V8.l q54 (V8.l q55 (V8.l q56 (V8.l q57 (V8.l q58 (q59.a :: q59.b :: q59.c :: q59.d :: U32L4g (U8L4g (undef :: []))))))))))))) rfl ?_
                refine p_run (l' := _) _ (x_assign (.int .i64 (S.pageE aa)) rfl rfl) rfl ?_
                refine wpList_nil ?_
                refine hK901122 _ _ ?_
                refine c_region (fun ops901128 hops901127 => ?_)
                clear hops901127
                refine p_run (l' := _) _ (x_loads [vs, vb, vp, .bool R.counted, .int .i64 R.left, .bool R.down] 6 rfl rfl (bkCells (HS.get (.tail _ (.tail _ (.tail _ (.tail _ (.tail _ (.tail _ (.tail _ (.tail _ (.head _)))))))))) 0 _ rfl) (by rfl) (by kernel_rfl) rfl) rfl ?_
                refine p_run (l' := _) _ (x_field (j := 1) _ _ rfl rfl Try.underlying38 rfl (by rfl) rfl) rfl ?_
                refine p_run (l' := _) _ (x_load (.int .i64 aa) rfl rfl (bkCell (HS.get (.tail _ (.tail _ (.tail _ (.tail _ (.head _)))))) 1 _ rfl) (by rfl)) rfl ?_
                refine p_run (l' := _) _ (x_field (j := 0) _ _ rfl rfl Try.underlying38 rfl (by rfl) rfl) rfl ?_
                refine p_run (l' := _) _ (x_load (.int .i64 5) rfl rfl (bkCell (HS.get (.tail _ (.tail _ (.tail _ (.tail _ (.head _)))))) 0 _ rfl) (by rfl)) rfl ?_
                refine p_run (l' := (.int .i64 pages :: .slice (some ad) l1.length c1 :: undef :: undef :: q44.a :: .pointer (some ⟨D22, 0, none⟩) :: .pointer (some ⟨g34, 0, none⟩) :: undef :: .pointer (some ⟨g76, 0, none⟩) :: .int .i64 (S.pageE aa) :: .int .i64 0 :: q44.e :: q44.f :: q44.g :: q44.h :: PR_ pages ad l1 c1 D22 v31 v32 (.int .i64 (i : Int) :: .bool (decide ((i : Int) < (l1.length : Int))) :: .pointer (some ((ad).add (i * 4))) :: .agg ([.int .i64 5, .int .i64 aa, .int .u8 bb, .slice A3 kp.length c3] : List Value).toArray :: .pointer (some ⟨g76, 0, none⟩) :: .int .i64 5 :: .bool false :: .bool false :: q45.h :: V8.l q46 (V8.l q47 (.bool false :: .bool false :: q48.c :: q48.d :: q48.e :: q48.f :: q48.g :: q48.h :: q49.a :: .bool false :: .bool false :: q49.d :: q49.e :: q49.f :: q49.g :: q49.h :: q50.a :: q50.b :: q50.c :: .bool false :: .bool false :: q50.f :: q50.g :: q50.h :: q51.a :: q51.b :: q51.c :: q51.d :: q51.e :: .bool true :: .bool false :: .bool true :: .pointer (some ⟨D22, 0, none⟩) :: .pointer (some ⟨g76, 1, none⟩) :: .int .i64 aa :: .pointer (some ⟨g76, 0, none⟩) :: .int .i64 5 :: .bool false :: .int .i64 (S.pageE aa) :: q52.h :: rkV vs vb vp R :: .pointer (some ⟨g76, 1, none⟩) :: .int .i64 aa :: .pointer (some ⟨g76, 0, none⟩) :: .int .i64 5 :: .bool false :: q53.g :: q53.h :: V8.l q54 (V8.l q55 (V8.l q56 (V8.l q57 (V8.l q58 (q59.a :: q59.b :: q59.c :: q59.d :: U32L4g (U8L4g (undef :: [])))))))))))) _ (x_cmp (k := .i64) (m := 5) (n := 4) .eql false rfl rfl rfl (by decide) rfl) rfl ?_
                refine w_call [rkV vs vb vp R, .int .i64 aa, .bool false] Try.func27 (by kernel_rfl) (by rfl) rfl ?_
                replace HS := (((HS.front 7 rfl).front 7 rfl).front 7 rfl)
                refine (rkSpoil_any HS hRO.hb hRO.hsl aa false).mono ?_
                clear HS
                rintro e w901130 ⟨v901129, he_, HS⟩
                rw [(rd_spoil hRD aa false).2] at he_
                subst he_
                refine ⟨_, rfl, ?_⟩
                refine p_run (l' := _) _ (x_move (.tuple [rkV vs v901129 vp (R.spoil aa false), .int .i64 (S.pageE aa)].toArray) rfl rfl) rfl ?_
                refine p_run (l' := _) _ (x_extract (vs := [rkV vs v901129 vp (R.spoil aa false), .int .i64 (S.pageE aa)]) 0 (rkV vs v901129 vp (R.spoil aa false)) rfl rfl rfl) rfl ?_
                refine p_run (l' := _) _ (x_extract (vs := [rkV vs v901129 vp (R.spoil aa false), .int .i64 (S.pageE aa)]) 1 (.int .i64 (S.pageE aa)) rfl rfl rfl) rfl ?_
                refine St.stores (cs' := [vs, v901129, vp, .bool ((R.spoil aa false).counted), .int .i64 ((R.spoil aa false).left), .bool ((R.spoil aa false).down)]) (HS.front 8 rfl) [vs, v901129, vp, .bool ((R.spoil aa false).counted), .int .i64 ((R.spoil aa false).left), .bool ((R.spoil aa false).down)] 6 rfl rfl (all1 (row_one (HS.get (.head _))) (all1 (row_one (HS.get (.tail _ (.head _)))) (all1 (row_one (HS.get (.tail _ (.tail _ (.head _))))) (all1 rfl (all1 rfl (all1 rfl rfl)))))) (by kernel_rfl) rfl (by simp) rfl ?_
                clear HS
                intro w901131 HS
                refine p_run (l' := _) _ (x_assign (.int .i64 (S.pageE aa)) rfl rfl) rfl ?_
                refine wpList_nil ?_
                refine fr_at (l' := (.int .i64 pages :: .slice (some ad) l1.length c1 :: undef :: undef :: q44.a :: .pointer (some ⟨D22, 0, none⟩) :: .pointer (some ⟨g34, 0, none⟩) :: undef :: .pointer (some ⟨g76, 0, none⟩) :: .int .i64 (S.pageE aa) :: .int .i64 (S.pageE aa) :: q44.e :: q44.f :: q44.g :: q44.h :: PR_ pages ad l1 c1 D22 v31 v32 (.int .i64 (i : Int) :: .bool (decide ((i : Int) < (l1.length : Int))) :: .pointer (some ((ad).add (i * 4))) :: .agg ([.int .i64 5, .int .i64 aa, .int .u8 bb, .slice A3 kp.length c3] : List Value).toArray :: .pointer (some ⟨g76, 0, none⟩) :: .int .i64 5 :: .bool false :: .bool false :: q45.h :: V8.l q46 (V8.l q47 (.bool false :: .bool false :: q48.c :: q48.d :: q48.e :: q48.f :: q48.g :: q48.h :: q49.a :: .bool false :: .bool false :: q49.d :: q49.e :: q49.f :: q49.g :: q49.h :: q50.a :: q50.b :: q50.c :: .bool false :: .bool false :: q50.f :: q50.g :: q50.h :: q51.a :: q51.b :: q51.c :: q51.d :: q51.e :: .bool true :: .bool false :: .bool true :: .pointer (some ⟨D22, 0, none⟩) :: .pointer (some ⟨g76, 1, none⟩) :: .int .i64 aa :: .pointer (some ⟨g76, 0, none⟩) :: .int .i64 5 :: .bool false :: .int .i64 (S.pageE aa) :: .tuple [rkV vs v901129 vp (R.spoil aa false), .int .i64 (S.pageE aa)].toArray :: rkV vs vb vp R :: .pointer (some ⟨g76, 1, none⟩) :: .int .i64 aa :: .pointer (some ⟨g76, 0, none⟩) :: .int .i64 5 :: .bool false :: .tuple [rkV vs v901129 vp (R.spoil aa false), .int .i64 (S.pageE aa)].toArray :: rkV vs v901129 vp (R.spoil aa false) :: .int .i64 (S.pageE aa) :: q54.b :: q54.c :: q54.d :: q54.e :: q54.f :: q54.g :: q54.h :: V8.l q55 (V8.l q56 (V8.l q57 (V8.l q58 (q59.a :: q59.b :: q59.c :: q59.d :: U32L4g (U8L4g (undef :: []))))))))))) rfl ?_
                exact hT86 (S.spoil aa false) (R.spoil aa false) v vs v901129 vp (S.pageE aa) ⟨.pointer (some ⟨g76, 0, none⟩), .int .i64 5, .bool false, .bool false, q45.h, q46.a, q46.b, q46.c⟩ ⟨q46.d, q46.e, q46.f, q46.g, q46.h, q47.a, q47.b, q47.c⟩ ⟨q47.d, q47.e, q47.f, q47.g, q47.h, .bool false, .bool false, q48.c⟩ ⟨q48.d, q48.e, q48.f, q48.g, q48.h, q49.a, .bool false, .bool false⟩ ⟨q49.d, q49.e, q49.f, q49.g, q49.h, q50.a, q50.b, q50.c⟩ ⟨.bool false, .bool false, q50.f, q50.g, q50.h, q51.a, q51.b, q51.c⟩ ⟨q51.d, q51.e, .bool true, .bool false, .bool true, .pointer (some ⟨D22, 0, none⟩), .pointer (some ⟨g76, 1, none⟩), .int .i64 aa⟩ ⟨.pointer (some ⟨g76, 0, none⟩), .int .i64 5, .bool false, .int .i64 (S.pageE aa), .tuple [rkV vs v901129 vp (R.spoil aa false), .int .i64 (S.pageE aa)].toArray, rkV vs vb vp R, .pointer (some ⟨g76, 1, none⟩), .int .i64 aa⟩ ⟨.pointer (some ⟨g76, 0, none⟩), .int .i64 5, .bool false, .tuple [rkV vs v901129 vp (R.spoil aa false), .int .i64 (S.pageE aa)].toArray, rkV vs v901129 vp (R.spoil aa false), .int .i64 (S.pageE aa), undef, undef⟩ _ (((((((((HS.front 8 rfl).front 1 rfl).front 4 rfl).front 4 rfl).front 4 rfl).front 8 rfl).front 8 rfl).front 8 rfl).front 8 rfl) ⟨(rd_spoil hRD _ _).1, good_spoil hG _ _⟩
              · skip
                refine c_region (fun ops901133 hops901132 => ?_)
                clear hops901132
                refine p_run (l' := _) _ (x_cmp (k := .i64) (m := kd) (n := 0) .eql false rfl rfl rfl (beq_eq_false_iff_ne.2 hk.1) rfl) rfl ?_
                refine p_run (l' := _) _ (x_assign (.bool false) rfl rfl) rfl ?_
                refine wpList_nil ?_
                refine hK902609 _ _ ?_
                refine c_false rfl ?_
                refine wp_seq_k (fun K901134 hK901135 => ?_)
                refine c_region (fun ops901137 hops901136 => ?_)
                clear hops901136
                refine p_run (l' := _) _ (x_cmp (k := .i64) (m := kd) (n := 1) .eql false rfl rfl rfl (beq_eq_false_iff_ne.2 hk.2.1) rfl) rfl ?_
                refine p_run (l' := _) _ (x_assign (.bool false) rfl rfl) rfl ?_
                refine wpList_nil ?_
                refine hK901135 _ _ ?_
                refine c_false rfl ?_
                refine wp_seq_k (fun K901138 hK901139 => ?_)
                refine c_region (fun ops901141 hops901140 => ?_)
                clear hops901140
                refine p_run (l' := _) _ (x_cmp (k := .i64) (m := kd) (n := 2) .eql false rfl rfl rfl (beq_eq_false_iff_ne.2 hk.2.2.1) rfl) rfl ?_
                refine p_run (l' := _) _ (x_assign (.bool false) rfl rfl) rfl ?_
                refine wpList_nil ?_
                refine fr_at (l' := (.int .i64 pages :: .slice (some ad) l1.length c1 :: undef :: undef :: q44.a :: .pointer (some ⟨D22, 0, none⟩) :: .pointer (some ⟨g34, 0, none⟩) :: undef :: .pointer (some ⟨g76, 0, none⟩) :: .int .i64 0 :: .int .i64 0 :: q44.e :: q44.f :: q44.g :: q44.h :: PR_ pages ad l1 c1 D22 v31 v32 (.int .i64 (i : Int) :: .bool (decide ((i : Int) < (l1.length : Int))) :: .pointer (some ((ad).add (i * 4))) :: .agg ([.int .i64 kd, .int .i64 aa, .int .u8 bb, .slice A3 kp.length c3] : List Value).toArray :: .pointer (some ⟨g76, 0, none⟩) :: .int .i64 kd :: .bool false :: .bool false :: q45.h :: V8.l q46 (V8.l q47 (.bool false :: .bool false :: q48.c :: q48.d :: q48.e :: q48.f :: q48.g :: q48.h :: q49.a :: .bool false :: .bool false :: q49.d :: q49.e :: q49.f :: q49.g :: q49.h :: V8.l q50 (V8.l q51 (V8.l q52 (V8.l q53 (V8.l q54 (V8.l q55 (V8.l q56 (V8.l q57 (V8.l q58 (q59.a :: q59.b :: q59.c :: q59.d :: U32L4g (U8L4g (undef :: [])))))))))))))))) rfl ?_
                refine hK901139 _ _ ?_
                refine c_false rfl ?_
                refine wp_seq_k (fun K901142 hK901143 => ?_)
                refine c_region (fun ops901145 hops901144 => ?_)
                clear hops901144
                refine p_run (l' := _) _ (x_cmp (k := .i64) (m := kd) (n := 3) .eql false rfl rfl rfl (beq_eq_false_iff_ne.2 hk.2.2.2.1) rfl) rfl ?_
                refine p_run (l' := _) _ (x_assign (.bool false) rfl rfl) rfl ?_
                refine wpList_nil ?_
                refine hK901143 _ _ ?_
                refine c_false rfl ?_
                refine wp_seq_k (fun K901146 hK901147 => ?_)
                refine wp_seq_k (fun K901148 hK901149 => ?_)
                refine c_region (fun ops901151 hops901150 => ?_)
                clear hops901150
                refine p_run (l' := _) _ (x_cmp (k := .i64) (m := kd) (n := 4) .eql false rfl rfl rfl (beq_eq_false_iff_ne.2 hk.2.2.2.2.1) rfl) rfl ?_
                refine p_run (l' := _) _ (x_assign (.bool false) rfl rfl) rfl ?_
                refine wpList_nil ?_
                refine hK901149 _ _ ?_
                refine c_false rfl ?_
                refine c_region (fun ops901153 hops901152 => ?_)
                clear hops901152
                refine p_run (l' := _) _ (x_cmp (k := .i64) (m := kd) (n := 5) .eql false rfl rfl rfl (beq_eq_false_iff_ne.2 hk.2.2.2.2.2) rfl) rfl ?_
                refine p_run (l' := _) _ (x_assign (.bool false) rfl rfl) rfl ?_
                refine wpList_nil ?_
                refine fr_at (l' := (.int .i64 pages :: .slice (some ad) l1.length c1 :: undef :: undef :: q44.a :: .pointer (some ⟨D22, 0, none⟩) :: .pointer (some ⟨g34, 0, none⟩) :: undef :: .pointer (some ⟨g76, 0, none⟩) :: .int .i64 0 :: .int .i64 0 :: q44.e :: q44.f :: q44.g :: q44.h :: PR_ pages ad l1 c1 D22 v31 v32 (.int .i64 (i : Int) :: .bool (decide ((i : Int) < (l1.length : Int))) :: .pointer (some ((ad).add (i * 4))) :: .agg ([.int .i64 kd, .int .i64 aa, .int .u8 bb, .slice A3 kp.length c3] : List Value).toArray :: .pointer (some ⟨g76, 0, none⟩) :: .int .i64 kd :: .bool false :: .bool false :: q45.h :: V8.l q46 (V8.l q47 (.bool false :: .bool false :: q48.c :: q48.d :: q48.e :: q48.f :: q48.g :: q48.h :: q49.a :: .bool false :: .bool false :: q49.d :: q49.e :: q49.f :: q49.g :: q49.h :: q50.a :: q50.b :: q50.c :: .bool false :: .bool false :: q50.f :: q50.g :: q50.h :: q51.a :: q51.b :: q51.c :: q51.d :: q51.e :: .bool false :: .bool false :: .bool false :: V8.l q52 (V8.l q53 (V8.l q54 (V8.l q55 (V8.l q56 (V8.l q57 (V8.l q58 (q59.a :: q59.b :: q59.c :: q59.d :: U32L4g (U8L4g (undef :: [])))))))))))))) rfl ?_
                refine hK901147 _ _ ?_
                refine c_false rfl ?_
                refine wp_skip ?_
                exact hT86 S R v vs vb vp 0 ⟨.pointer (some ⟨g76, 0, none⟩), .int .i64 kd, .bool false, .bool false, q45.h, q46.a, q46.b, q46.c⟩ ⟨q46.d, q46.e, q46.f, q46.g, q46.h, q47.a, q47.b, q47.c⟩ ⟨q47.d, q47.e, q47.f, q47.g, q47.h, .bool false, .bool false, q48.c⟩ ⟨q48.d, q48.e, q48.f, q48.g, q48.h, q49.a, .bool false, .bool false⟩ ⟨q49.d, q49.e, q49.f, q49.g, q49.h, q50.a, q50.b, q50.c⟩ ⟨.bool false, .bool false, q50.f, q50.g, q50.h, q51.a, q51.b, q51.c⟩ ⟨q51.d, q51.e, .bool false, .bool false, .bool false, q52.a, q52.b, q52.c⟩ ⟨q52.d, q52.e, q52.f, q52.g, q52.h, q53.a, q53.b, q53.c⟩ ⟨q53.d, q53.e, q53.f, q53.g, q53.h, q54.a, undef, undef⟩ _ ((((((((HS.front 8 rfl).front 8 rfl).front 8 rfl).front 8 rfl).front 8 rfl).front 8 rfl).front 8 rfl).front 8 rfl) ⟨hRD, hG.mono (Nat.le_succ _)⟩
            · have hlt : ¬ i < l1.length := by have := of_decide_eq_false hc69; omega
              have hRD2 := hRD
              have hG2 := hG
              obtain ⟨A901154, c901155, hv901156, hcp901157, -⟩ := row_reads (HS.get (.tail _ (.tail _ (.tail _ (.tail _ (.head _))))))
              subst hv901156
              refine wp_exit ?_
              refine hK39 _ _ ?_
              refine wp_seq_k (fun K901158 hK901159 => ?_)
              refine wp_seq_k (fun K901160 hK901161 => ?_)
              refine c_region (fun ops901163 hops901162 => ?_)
              clear hops901162
              refine p_run (l' := _) _ (x_field (j := 0) _ _ rfl rfl Try.underlying51 rfl (by rfl) rfl) rfl ?_
              refine p_run (l' := _) _ (x_load (.slice A901154 R.stable.length c901155) rfl rfl (bkCell (HS.get (.tail _ (.tail _ (.tail _ (.tail _ (.tail _ (.tail _ (.tail _ (.head _))))))))) 0 _ rfl) (by rfl)) rfl ?_
              refine p_run (l' := _) _ (x_len rfl rfl Try.underlying48) rfl ?_
              refine p_run (l' := _) _ (x_move (.int .i64 0) rfl rfl) rfl ?_
              refine wpList_nil ?_
              refine fr_at (l' := (.int .i64 pages :: .slice A1 l1.length c1 :: undef :: undef :: q44.a :: .pointer (some ⟨D22, 0, none⟩) :: .pointer (some ⟨g34, 0, none⟩) :: undef :: q44.b :: q44.c :: q44.d :: q44.e :: q44.f :: q44.g :: q44.h :: U4L4g (undef :: .bool true :: .bool false :: .int .i64 pages :: .bool false :: .bool false :: .slice A1 l1.length c1 :: .int .i64 (l1.length : Int) :: .bool false :: .bool false :: .int .i64 pages :: .pointer (some ⟨D22, 0, none⟩) :: .int .i64 pages :: rkV v31 v32 (.slice none 0 0) (Rk.new pages) :: .slice A1 l1.length c1 :: .int .i64 (l1.length : Int) :: .int .i64 (i : Int) :: .bool (decide ((i : Int) < (l1.length : Int))) :: q45.b :: q45.c :: q45.d :: q45.e :: q45.f :: q45.g :: q45.h :: V8.l q46 (V8.l q47 (V8.l q48 (V8.l q49 (V8.l q50 (V8.l q51 (V8.l q52 (V8.l q53 (V8.l q54 (V8.l q55 (V8.l q56 (V8.l q57 (V8.l q58 (q59.a :: q59.b :: q59.c :: q59.d :: .pointer (some ⟨g34, 0, none⟩) :: .slice A901154 R.stable.length c901155 :: .int .i64 (R.stable.length : Int) :: .int .i64 0 :: U32L4g (U4L4g (undef :: [])))))))))))))))))) rfl ?_
              refine hK901161 _ _ ?_
              refine wp_block ?_
              have hsl2 := (rd_ok hRD2 hG2).hsl
              refine c_loop (ι := Nat) (fun i_ a_ w_ => match i_ with | k => ∃ (u4 : Value) (u15 : Value) (u16 : Value) (u17 : Value) (u156 : Value) (u157 : Value) (u158 : Value) (u159 : Value) (u160 : Value) (u161 : Value) (u162 : Value) (u163 : Value) (u164 : Value) (u165 : Value) (u166 : Value) (u167 : Value) (u168 : Value) (u169 : Value) (u170 : Value) (u171 : Value) (u172 : Value) (u173 : Value) (u174 : Value) (u175 : Value), a_ = fr (.int .i64 pages :: .slice A1 l1.length c1 :: undef :: undef :: u4 :: .pointer (some ⟨D22, 0, none⟩) :: .pointer (some ⟨g34, 0, none⟩) :: undef :: q44.b :: q44.c :: q44.d :: q44.e :: q44.f :: q44.g :: q44.h :: u15 :: u16 :: u17 :: undef :: undef :: .bool true :: .bool false :: .int .i64 pages :: .bool false :: .bool false :: .slice A1 l1.length c1 :: .int .i64 (l1.length : Int) :: .bool false :: .bool false :: .int .i64 pages :: .pointer (some ⟨D22, 0, none⟩) :: .int .i64 pages :: rkV v31 v32 (.slice none 0 0) (Rk.new pages) :: .slice A1 l1.length c1 :: .int .i64 (l1.length : Int) :: .int .i64 (i : Int) :: .bool (decide ((i : Int) < (l1.length : Int))) :: q45.b :: q45.c :: q45.d :: q45.e :: q45.f :: q45.g :: q45.h :: V8.l q46 (V8.l q47 (V8.l q48 (V8.l q49 (V8.l q50 (V8.l q51 (V8.l q52 (V8.l q53 (V8.l q54 (V8.l q55 (V8.l q56 (V8.l q57 (V8.l q58 (q59.a :: q59.b :: q59.c :: q59.d :: .pointer (some ⟨g34, 0, none⟩) :: .slice A901154 R.stable.length c901155 :: .int .i64 (R.stable.length : Int) :: .int .i64 (k : Int) :: u156 :: u157 :: u158 :: u159 :: u160 :: u161 :: u162 :: u163 :: u164 :: u165 :: u166 :: u167 :: u168 :: u169 :: u170 :: u171 :: u172 :: u173 :: u174 :: u175 :: U16L4g (undef :: []))))))))))))))) ∧ St w (fun _ => False) w_ ([blk D22 (dskC gs23 gm24 v S) 66, blk gs23 (pgs S.stable) 31, mapR gm24 S.cnt S.bad, row kWr rfl 71 v S.pending, row kPg rfl 31 (.slice A901154 R.stable.length c901155) R.stable, row Kd.bool rfl 4 vb R.bad, row kWr rfl 74 vp R.pending, blk g34 [.slice A901154 R.stable.length c901155, vb, vp, .bool R.counted, .int .i64 R.left, .bool R.down] 51]) ∧ (True)) (fun i_ => match i_ with | k => R.stable.length - k) 0 ?_ ?_
              · exact ⟨_, _, _, _, _, _, _, _, _, _, _, _, _, _, _, _, _, _, _, _, _, _, _, _, rfl, ((((((((HS.front 7 rfl).front 7 rfl).front 7 rfl).front 7 rfl).front 7 rfl).front 7 rfl).front 7 rfl).front 7 rfl), trivial⟩
              · clear HS
                rintro k a_ w901166 ⟨u4, u15, u16, u17, u156, u157, u158, u159, u160, u161, u162, u163, u164, u165, u166, u167, u168, u169, u170, u171, u172, u173, u174, u175, rfl, HS, hI⟩ J901164 hJ901165
                refine wp_seq_k (fun K901167 hK901168 => ?_)
                refine c_region (fun ops901170 hops901169 => ?_)
                clear hops901169
                refine p_run (l' := _) _ (x_cmp (k := .i64) (m := (k : Int)) (n := (R.stable.length : Int)) .lss (decide ((k : Int) < (R.stable.length : Int))) rfl rfl rfl rfl rfl) rfl ?_
                refine wpList_nil ?_
                refine hK901168 _ _ ?_
                refine wp_seq_k (fun K901171 hK901172 => ?_)
                refine c_cond (t := decide ((k : Int) < (R.stable.length : Int))) rfl (fun hc901173 => ?_) (fun hc901173 => ?_)
                · have hlk : k < R.stable.length := by have := of_decide_eq_true hc901173; omega
                  obtain ⟨as_, x_, has, hx2, hx3, hpc⟩ := pg_get (row_C (HS.get (.tail _ (.tail _ (.tail _ (.tail _ (.head _))))))).2.2 k hlk
                  subst has
                  have hyes := rdp_yes hRD2 hx2
                  refine wp_skip ?_
                  refine hK901172 _ _ ?_
                  refine wp_seq_k (fun K901174 hK901175 => ?_)
                  refine wp_block ?_
                  refine wp_seq_k (fun K901176 hK901177 => ?_)
                  refine c_region (fun ops901179 hops901178 => ?_)
                  clear hops901178
                  refine p_run (l' := _) _ (x_move (.int .i64 (k : Int)) rfl rfl) rfl ?_
                  refine p_run (l' := _) _ (x_assign (.int .i64 (k : Int)) rfl rfl) rfl ?_
                  refine wpList_nil ?_
                  refine hK901177 _ _ ?_
                  refine wp_seq_k (fun K901180 hK901181 => ?_)
                  refine c_region (fun ops901183 hops901182 => ?_)
                  clear hops901182
                  refine p_run (l' := _) _ (x_move (.pointer (some ⟨D22, 0, none⟩)) rfl rfl) rfl ?_
                  refine p_run (l' := _) _ (x_move (.int .i64 (k : Int)) rfl rfl) rfl ?_
                  refine w_call [.pointer (some ⟨D22, 0, none⟩), .int .i64 (k : Int)] Try.func18 (by kernel_rfl) (by rfl) rfl ?_
                  replace HS := ((((HS.front 3 rfl).front 3 rfl).front 3 rfl).front 3 rfl)
                  refine (stable_any HS hG2.ok (k : Int)).mono ?_
                  clear HS
                  rintro e w901184 ⟨rfl, HS⟩
                  refine ⟨_, rfl, ?_⟩
                  refine p_run (l' := (.int .i64 pages :: .slice A1 l1.length c1 :: undef :: undef :: u4 :: .pointer (some ⟨D22, 0, none⟩) :: .pointer (some ⟨g34, 0, none⟩) :: undef :: q44.b :: q44.c :: q44.d :: q44.e :: q44.f :: q44.g :: q44.h :: .int .i64 (k : Int) :: u16 :: u17 :: undef :: undef :: .bool true :: .bool false :: .int .i64 pages :: .bool false :: .bool false :: .slice A1 l1.length c1 :: .int .i64 (l1.length : Int) :: .bool false :: .bool false :: .int .i64 pages :: .pointer (some ⟨D22, 0, none⟩) :: .int .i64 pages :: rkV v31 v32 (.slice none 0 0) (Rk.new pages) :: .slice A1 l1.length c1 :: .int .i64 (l1.length : Int) :: .int .i64 (i : Int) :: .bool (decide ((i : Int) < (l1.length : Int))) :: q45.b :: q45.c :: q45.d :: q45.e :: q45.f :: q45.g :: q45.h :: V8.l q46 (V8.l q47 (V8.l q48 (V8.l q49 (V8.l q50 (V8.l q51 (V8.l q52 (V8.l q53 (V8.l q54 (V8.l q55 (V8.l q56 (V8.l q57 (V8.l q58 (q59.a :: q59.b :: q59.c :: q59.d :: .pointer (some ⟨g34, 0, none⟩) :: .slice (some as_) R.stable.length c901155 :: .int .i64 (R.stable.length : Int) :: .int .i64 (k : Int) :: .bool (decide ((k : Int) < (R.stable.length : Int))) :: .int .i64 (k : Int) :: .tuple [.agg ((nums .u8 (S.stabP (k : Int)))).toArray, .int .i64 (S.pageE (k : Int))].toArray :: .pointer (some ⟨D22, 0, none⟩) :: .int .i64 (k : Int) :: .tuple [.agg ((nums .u8 (S.stabP (k : Int)))).toArray, .int .i64 (S.pageE (k : Int))].toArray :: u162 :: u163 :: u164 :: u165 :: u166 :: u167 :: u168 :: u169 :: u170 :: u171 :: u172 :: u173 :: u174 :: u175 :: U16L4g (undef :: [])))))))))))))))) _ (x_move (.tuple [.agg ((nums .u8 (S.stabP (k : Int)))).toArray, .int .i64 (S.pageE (k : Int))].toArray) rfl rfl) rfl ?_
                  refine p_run (l' := _) _ (x_extract (vs := [.agg ((nums .u8 (S.stabP (k : Int)))).toArray, .int .i64 (S.pageE (k : Int))]) 0 (.agg ((nums .u8 (S.stabP (k : Int)))).toArray) rfl rfl rfl) rfl ?_
                  refine p_run (l' := _) _ (x_extract (vs := [.agg ((nums .u8 (S.stabP (k : Int)))).toArray, .int .i64 (S.pageE (k : Int))]) 1 (.int .i64 (S.pageE (k : Int))) rfl rfl rfl) rfl ?_
                  refine St.wAlloc HS (cs := ((nums .u8 zpg))) (.agg ((nums .u8 zpg)).toArray) (by kernel_rfl) rfl ?_
                  clear HS
                  intro g901185 w901186 hg901187 HS
                  refine St.stores (cs' := ((nums .u8 (S.stabP (k : Int))))) HS ((nums .u8 (S.stabP (k : Int)))) 256 rfl rfl (nums_one _ _) (by kernel_rfl) (by simp [nums_length, stabP_len hG2.ok]) (by simp [nums_length, stabP_len hG2.ok, zlen]) (lay_all _ _ (by simp [nums_length, stabP_len hG2.ok, zlen])) ?_
                  clear HS
                  intro w901188 HS
                  refine p_run (l' := _) _ (x_assign (.int .i64 (S.pageE (k : Int))) rfl rfl) rfl ?_
                  refine wpList_nil ?_
                  refine hK901181 _ _ ?_
                  refine wp_seq_k (fun K901189 hK901190 => ?_)
                  refine free_frame (n := 11) (T := _) [0, 1, 3, 7, 7, 23, 7, 119, 247, 511, 1023] [(0, 164), (1, 165), (2, 166), (3, 167), (4, 168), (5, 169), (6, 170), (7, 171), (8, 172), (9, 173), (10, 174)] (fun bq_ vq_ w_ => qv ((fun i_ => match i_ with | 0 => some (.int .i64 (S.pageE (k : Int))) | 1 => some (.bool false) | 2 => some (.bool false) | 3 => some (.agg ((nums .u8 (S.stabP (k : Int)))).toArray) | 4 => some (.pointer (some ⟨g34, 0, none⟩)) | 5 => some (.slice (some as_) R.stable.length c901155) | 6 => some (.int .i64 (k : Int)) | 7 => some (.pointer (some ((as_).add (k * 256)))) | 8 => some (.agg ((nums .u8 x_)).toArray) | 9 => some (.bool false) | 10 => some (.bool false) | _ => none) : Nat → Option Value) bq_ vq_ ∧ (St w (fun _ => False) w_ ([blk g901185 ((nums .u8 (S.stabP (k : Int)))) 31, blk D22 (dskC gs23 gm24 v S) 66, blk gs23 (pgs S.stable) 31, mapR gm24 S.cnt S.bad, row kWr rfl 71 v S.pending, row kPg rfl 31 (.slice (some as_) R.stable.length c901155) R.stable, row Kd.bool rfl 4 vb R.bad, row kWr rfl 74 vp R.pending, blk g34 [.slice (some as_) R.stable.length c901155, vb, vp, .bool R.counted, .int .i64 R.left, .bool R.down] 51]))) (by kernel_rfl) rfl rfl (by kernel_rfl) (by kernel_rfl) rfl (by kernel_rfl) (by kernel_rfl) ⟨qv_none, HS.draw⟩ ?_ ?_
                  · clear HS
                    intro i_ hi_ bq_ vq_ a_ w_ hG hb_ hon hoff hfr hel hval
                    obtain ⟨hV, hE⟩ := hG
                    have hi_ := List.mem_range.1 hi_
                    obtain ⟨l_, rfl⟩ := hfr
                    have hv_ := fun (j t : Nat) (v : Value) (h1 : (j, t) ∈ [(0, 164), (1, 165), (2, 166), (3, 167), (4, 168), (5, 169), (6, 170), (7, 171), (8, 172), (9, 173), (10, 174)]) h2 h3 => (hval (j, t) h1 h3).trans (congrArg some (hV j v h2 h3))
                    have hcs : i_ = 0 ∨ i_ = 1 ∨ i_ = 2 ∨ i_ = 3 ∨ i_ = 4 ∨ i_ = 5 ∨ i_ = 6 ∨ i_ = 7 ∨ i_ = 8 ∨ i_ = 9 ∨ i_ = 10 := by omega
                    rcases hcs with rfl | rfl | rfl | rfl | rfl | rfl | rfl | rfl | rfl | rfl | rfl
                    · have e17 : evl l_ (.tmp 17) = .int .i64 (S.pageE (k : Int)) := evl_of ((hel 17 (by decide)).trans rfl)
                      exact ⟨_, rfl, fun K_ hK_ => q_op _ (x_move (.int .i64 (S.pageE (k : Int))) rfl e17) (hK_ _ _ ⟨qv_up hV (fun _ h => Option.some.inj h), hE⟩)⟩
                    · have e164 : evl l_ (.tmp 164) = .int .i64 (S.pageE (k : Int)) := evl_of (hv_ 0 164 _ (by decide) rfl (hon 0 (by decide)))
                      exact ⟨_, rfl, fun K_ hK_ => q_op _ (x_cmp (k := .i64) (m := (S.pageE (k : Int))) (n := 0) .neq false rfl e164 rfl (by unfold cmpB; rw [hyes.1]; rfl) rfl) (hK_ _ _ ⟨qv_up hV (fun _ h => Option.some.inj h), hE⟩)⟩
                    · have e165 : evl l_ (.tmp 165) = .bool false := evl_of (hv_ 1 165 _ (by decide) rfl (hon 1 (by decide)))
                      exact ⟨_, rfl, fun K_ hK_ => q_op _ (x_move (.bool false) rfl e165) (hK_ _ _ ⟨qv_up hV (fun _ h => Option.some.inj h), hE⟩)⟩
                    · have h166 : (fr l_).tmps[166]? = some (.bool false) := hv_ 2 166 _ (by decide) rfl (hon 2 (by decide))
                      have hE0 := hE
                      have HS := hE0
                      have e16 : evl l_ (.tmp 16) = .pointer (some ⟨g901185, 0, none⟩) := evl_of ((hel 16 (by decide)).trans rfl)
                      have e166 : evl l_ (.tmp 166) = .bool false := evl_of h166
                      exact ⟨_, rfl, fun K_ hK_ => q_opG (wanted_on (t := 166) rfl rfl rfl h166) _ (x_loads ((nums .u8 (S.stabP (k : Int)))) 256 rfl e16 (bkCells (HS.get (.head _)) 0 _ (whole _)) (by rfl) (by kernel_rfl) (by simp [nums_length, stabP_len hG2.ok])) (hK_ _ _ ⟨qv_up hV (fun _ h => Option.some.inj h), hE⟩)⟩
                    · have h166 : (fr l_).tmps[166]? = some (.bool false) := hv_ 2 166 _ (by decide) rfl (hon 2 (by decide))
                      have e6 : evl l_ (.tmp 6) = .pointer (some ⟨g34, 0, none⟩) := evl_of ((hel 6 (by decide)).trans rfl)
                      have e166 : evl l_ (.tmp 166) = .bool false := evl_of h166
                      exact ⟨_, rfl, fun K_ hK_ => q_opG (wanted_on (t := 166) rfl rfl rfl h166) _ (x_field (j := 0) _ _ rfl e6 Try.underlying51 rfl (by rfl) rfl) (hK_ _ _ ⟨qv_up hV (fun _ h => Option.some.inj h), hE⟩)⟩
                    · have h166 : (fr l_).tmps[166]? = some (.bool false) := hv_ 2 166 _ (by decide) rfl (hon 2 (by decide))
                      have hE0 := hE
                      have HS := hE0
                      have e166 : evl l_ (.tmp 166) = .bool false := evl_of h166
                      have e168 : evl l_ (.tmp 168) = .pointer (some ⟨g34, 0, none⟩) := evl_of (hv_ 4 168 _ (by decide) rfl (hon 4 (by decide)))
                      exact ⟨_, rfl, fun K_ hK_ => q_opG (wanted_on (t := 166) rfl rfl rfl h166) _ (x_load (.slice (some as_) R.stable.length c901155) rfl e168 (bkCell (HS.get (.tail _ (.tail _ (.tail _ (.tail _ (.tail _ (.tail _ (.tail _ (.tail _ (.head _)))))))))) 0 _ rfl) (by rfl)) (hK_ _ _ ⟨qv_up hV (fun _ h => Option.some.inj h), hE⟩)⟩
                    · have h166 : (fr l_).tmps[166]? = some (.bool false) := hv_ 2 166 _ (by decide) rfl (hon 2 (by decide))
                      have e15 : evl l_ (.tmp 15) = .int .i64 (k : Int) := evl_of ((hel 15 (by decide)).trans rfl)
                      have e166 : evl l_ (.tmp 166) = .bool false := evl_of h166
                      exact ⟨_, rfl, fun K_ hK_ => q_opG (wanted_on (t := 166) rfl rfl rfl h166) _ (x_move (.int .i64 (k : Int)) rfl e15) (hK_ _ _ ⟨qv_up hV (fun _ h => Option.some.inj h), hE⟩)⟩
                    · have h166 : (fr l_).tmps[166]? = some (.bool false) := hv_ 2 166 _ (by decide) rfl (hon 2 (by decide))
                      have e166 : evl l_ (.tmp 166) = .bool false := evl_of h166
                      have e169 : evl l_ (.tmp 169) = .slice (some as_) R.stable.length c901155 := evl_of (hv_ 5 169 _ (by decide) rfl (hon 5 (by decide)))
                      have e170 : evl l_ (.tmp 170) = .int .i64 (k : Int) := evl_of (hv_ 6 170 _ (by decide) rfl (hon 6 (by decide)))
                      exact ⟨_, rfl, fun K_ hK_ => q_opG (wanted_on (t := 166) rfl rfl rfl h166) _ (x_index (A := as_) (j := k * 256) (sz := 256) rfl e169 e170 Try.underlying48 (by kernel_rfl) (by omega) rfl) (hK_ _ _ ⟨qv_up hV (fun _ h => Option.some.inj h), hE⟩)⟩
                    · have h166 : (fr l_).tmps[166]? = some (.bool false) := hv_ 2 166 _ (by decide) rfl (hon 2 (by decide))
                      have hE0 := hE
                      have HS := hE0
                      have e166 : evl l_ (.tmp 166) = .bool false := evl_of h166
                      have e171 : evl l_ (.tmp 171) = .pointer (some ((as_).add (k * 256))) := evl_of (hv_ 7 171 _ (by decide) rfl (hon 7 (by decide)))
                      exact ⟨_, rfl, fun K_ hK_ => q_opG (wanted_on (t := 166) rfl rfl rfl h166) _ (x_loads ((nums .u8 x_)) 256 rfl e171 (pg_cell (HS.get (.tail _ (.tail _ (.tail _ (.tail _ (.tail _ (.head _))))))) hx2) (by rfl) (by kernel_rfl) (by simp [hx3, nums_length])) (hK_ _ _ ⟨qv_up hV (fun _ h => Option.some.inj h), hE⟩)⟩
                    · have h166 : (fr l_).tmps[166]? = some (.bool false) := hv_ 2 166 _ (by decide) rfl (hon 2 (by decide))
                      have e166 : evl l_ (.tmp 166) = .bool false := evl_of h166
                      have e167 : evl l_ (.tmp 167) = .agg ((nums .u8 (S.stabP (k : Int)))).toArray := evl_of (hv_ 3 167 _ (by decide) rfl (hon 3 (by decide)))
                      have e172 : evl l_ (.tmp 172) = .agg ((nums .u8 x_)).toArray := evl_of (hv_ 8 172 _ (by decide) rfl (hon 8 (by decide)))
                      exact ⟨_, rfl, fun K_ hK_ => q_opG (wanted_on (t := 166) rfl rfl rfl h166) _ (x_eq .neq (.agg ((nums .u8 (S.stabP (k : Int)))).toArray) (.agg ((nums .u8 x_)).toArray) (decide ((S.stabP (k : Int)) = x_)) false rfl e167 e172 (equal_nums Try.underlying31 Try.underlying5 (by kernel_rfl) (by kernel_rfl) _ _ (by simp [stabP_len hG2.ok]) (by simp [hx3])) (by rw [hyes.2]; simp [eqB]) rfl (guard_agg (by kernel_rfl)) (guard_agg (by kernel_rfl))) (hK_ _ _ ⟨qv_up hV (fun _ h => Option.some.inj h), hE⟩)⟩
                    · have e166 : evl l_ (.tmp 166) = .bool false := evl_of (hv_ 2 166 _ (by decide) rfl (hon 2 (by decide)))
                      have e173 : evl l_ (.tmp 173) = .bool false := evl_of (hv_ 9 173 _ (by decide) rfl (hon 9 (by decide)))
                      exact ⟨_, rfl, fun K_ hK_ => q_op _ (x_pick false (.bool true) (.bool false) (.bool false) rfl e166 rfl e173 rfl) (hK_ _ _ ⟨qv_up hV (fun _ h => Option.some.inj h), hE⟩)⟩
                  intro bq_ vq_ w_ hall hG
                  obtain ⟨hV, hE⟩ := hG
                  clear HS
                  have HS := hE
                  have hv0 := hV 0 _ rfl (hall 0 (by decide))
                  have hv1 := hV 1 _ rfl (hall 1 (by decide))
                  have hv2 := hV 2 _ rfl (hall 2 (by decide))
                  have hv3 := hV 3 _ rfl (hall 3 (by decide))
                  have hv4 := hV 4 _ rfl (hall 4 (by decide))
                  have hv5 := hV 5 _ rfl (hall 5 (by decide))
                  have hv6 := hV 6 _ rfl (hall 6 (by decide))
                  have hv7 := hV 7 _ rfl (hall 7 (by decide))
                  have hv8 := hV 8 _ rfl (hall 8 (by decide))
                  have hv9 := hV 9 _ rfl (hall 9 (by decide))
                  have hv10 := hV 10 _ rfl (hall 10 (by decide))
                  clear hV hall
                  rw [putSel_fr]
                  simp only [tells, List.map_cons, List.map_nil, setAll, List.set_cons_succ, List.set_cons_zero, hv0, hv1, hv2, hv3, hv4, hv5, hv6, hv7, hv8, hv9, hv10]
                  clear hv0 hv1 hv2 hv3 hv4 hv5 hv6 hv7 hv8 hv9 hv10
                  generalize w_ = w900801 at HS ⊢
                  refine fr_at (l' := (.int .i64 pages :: .slice A1 l1.length c1 :: undef :: undef :: u4 :: .pointer (some ⟨D22, 0, none⟩) :: .pointer (some ⟨g34, 0, none⟩) :: undef :: q44.b :: q44.c :: q44.d :: q44.e :: q44.f :: q44.g :: q44.h :: .int .i64 (k : Int) :: .pointer (some ⟨g901185, 0, none⟩) :: .int .i64 (S.pageE (k : Int)) :: undef :: undef :: .bool true :: .bool false :: .int .i64 pages :: .bool false :: .bool false :: .slice A1 l1.length c1 :: .int .i64 (l1.length : Int) :: .bool false :: .bool false :: .int .i64 pages :: .pointer (some ⟨D22, 0, none⟩) :: .int .i64 pages :: rkV v31 v32 (.slice none 0 0) (Rk.new pages) :: .slice A1 l1.length c1 :: .int .i64 (l1.length : Int) :: .int .i64 (i : Int) :: .bool (decide ((i : Int) < (l1.length : Int))) :: q45.b :: q45.c :: q45.d :: q45.e :: q45.f :: q45.g :: q45.h :: V8.l q46 (V8.l q47 (V8.l q48 (V8.l q49 (V8.l q50 (V8.l q51 (V8.l q52 (V8.l q53 (V8.l q54 (V8.l q55 (V8.l q56 (V8.l q57 (V8.l q58 (q59.a :: q59.b :: q59.c :: q59.d :: .pointer (some ⟨g34, 0, none⟩) :: .slice (some as_) R.stable.length c901155 :: .int .i64 (R.stable.length : Int) :: .int .i64 (k : Int) :: .bool (decide ((k : Int) < (R.stable.length : Int))) :: .int .i64 (k : Int) :: .tuple [.agg ((nums .u8 (S.stabP (k : Int)))).toArray, .int .i64 (S.pageE (k : Int))].toArray :: .pointer (some ⟨D22, 0, none⟩) :: .int .i64 (k : Int) :: .tuple [.agg ((nums .u8 (S.stabP (k : Int)))).toArray, .int .i64 (S.pageE (k : Int))].toArray :: .agg ((nums .u8 (S.stabP (k : Int)))).toArray :: .int .i64 (S.pageE (k : Int)) :: .int .i64 (S.pageE (k : Int)) :: .bool false :: .bool false :: .agg ((nums .u8 (S.stabP (k : Int)))).toArray :: .pointer (some ⟨g34, 0, none⟩) :: .slice (some as_) R.stable.length c901155 :: .int .i64 (k : Int) :: .pointer (some ((as_).add (k * 256))) :: .agg ((nums .u8 x_)).toArray :: .bool false :: .bool false :: u175 :: U16L4g (undef :: [])))))))))))))))) rfl ?_
                  refine hK901190 _ _ ?_
                  refine c_false rfl ?_
                  refine wp_skip ?_
                  refine hK901175 _ _ ?_
                  refine c_region (fun ops900803 hops900802 => ?_)
                  clear hops900802
                  refine p_run (l' := _) _ (x_arith (k := .i64) (m := (k : Int)) (n := 1) .add (((k + 1 : Nat) : Int)) rfl rfl rfl (show IntKind.i64.wrap ((k : Int) + 1) = ((k + 1 : Nat) : Int) from ((wr64 (by omega)).trans (by omega))) rfl) rfl ?_
                  refine p_run (l' := _) _ (x_move (.int .i64 ((k + 1 : Nat) : Int)) rfl rfl) rfl ?_
                  refine wpList_nil ?_
                  refine fr_at (l' := (.int .i64 pages :: .slice A1 l1.length c1 :: undef :: undef :: u4 :: .pointer (some ⟨D22, 0, none⟩) :: .pointer (some ⟨g34, 0, none⟩) :: undef :: q44.b :: q44.c :: q44.d :: q44.e :: q44.f :: q44.g :: q44.h :: .int .i64 (k : Int) :: .pointer (some ⟨g901185, 0, none⟩) :: .int .i64 (S.pageE (k : Int)) :: undef :: undef :: .bool true :: .bool false :: .int .i64 pages :: .bool false :: .bool false :: .slice A1 l1.length c1 :: .int .i64 (l1.length : Int) :: .bool false :: .bool false :: .int .i64 pages :: .pointer (some ⟨D22, 0, none⟩) :: .int .i64 pages :: rkV v31 v32 (.slice none 0 0) (Rk.new pages) :: .slice A1 l1.length c1 :: .int .i64 (l1.length : Int) :: .int .i64 (i : Int) :: .bool (decide ((i : Int) < (l1.length : Int))) :: q45.b :: q45.c :: q45.d :: q45.e :: q45.f :: q45.g :: q45.h :: V8.l q46 (V8.l q47 (V8.l q48 (V8.l q49 (V8.l q50 (V8.l q51 (V8.l q52 (V8.l q53 (V8.l q54 (V8.l q55 (V8.l q56 (V8.l q57 (V8.l q58 (q59.a :: q59.b :: q59.c :: q59.d :: .pointer (some ⟨g34, 0, none⟩) :: .slice (some as_) R.stable.length c901155 :: .int .i64 (R.stable.length : Int) :: .int .i64 ((k + 1 : Nat) : Int) :: .bool (decide ((k : Int) < (R.stable.length : Int))) :: .int .i64 (k : Int) :: .tuple [.agg ((nums .u8 (S.stabP (k : Int)))).toArray, .int .i64 (S.pageE (k : Int))].toArray :: .pointer (some ⟨D22, 0, none⟩) :: .int .i64 (k : Int) :: .tuple [.agg ((nums .u8 (S.stabP (k : Int)))).toArray, .int .i64 (S.pageE (k : Int))].toArray :: .agg ((nums .u8 (S.stabP (k : Int)))).toArray :: .int .i64 (S.pageE (k : Int)) :: .int .i64 (S.pageE (k : Int)) :: .bool false :: .bool false :: .agg ((nums .u8 (S.stabP (k : Int)))).toArray :: .pointer (some ⟨g34, 0, none⟩) :: .slice (some as_) R.stable.length c901155 :: .int .i64 (k : Int) :: .pointer (some ((as_).add (k * 256))) :: .agg ((nums .u8 x_)).toArray :: .bool false :: .bool false :: .int .i64 ((k + 1 : Nat) : Int) :: U16L4g (undef :: [])))))))))))))))) rfl ?_
                  refine hJ901165 (k + 1) _ _ ?_ ?_
                  · show R.stable.length - (k + 1) < R.stable.length - k; omega
                  · exact ⟨_, _, _, _, _, _, _, _, _, _, _, _, _, _, _, _, _, _, _, _, _, _, _, _, rfl, ((((((((HS.drop.front 7 rfl).front 7 rfl).front 7 rfl).front 7 rfl).front 7 rfl).front 7 rfl).front 7 rfl).front 7 rfl), trivial⟩
                · skip
                  refine wp_exit ?_
                  refine hK901159 _ _ ?_
                  refine wp_seq_k (fun K900804 hK900805 => ?_)
                  refine c_region (fun ops900807 hops900806 => ?_)
                  clear hops900806
                  refine p_run (l' := _) _ (x_move (.pointer (some ⟨D22, 0, none⟩)) rfl rfl) rfl ?_
                  refine p_run (l' := _) _ (x_move (.pointer (some ⟨D22, 0, none⟩)) rfl rfl) rfl ?_
                  refine w_call [.pointer (some ⟨D22, 0, none⟩)] Try.func21 (by kernel_rfl) (by rfl) rfl ?_
                  replace HS := ((((HS.front 3 rfl).front 3 rfl).front 3 rfl).front 3 rfl)
                  refine (len_any HS).mono ?_
                  rintro e w' ⟨rfl, rfl⟩
                  refine ⟨_, rfl, ?_⟩
                  refine w_call [.pointer (some ⟨D22, 0, none⟩), .int .i64 (S.stable.length : Int)] Try.func18 (by kernel_rfl) (by rfl) rfl ?_
                  replace HS := ((((HS.front 3 rfl).front 3 rfl).front 3 rfl).front 3 rfl)
                  refine (stable_any HS hG2.ok (S.stable.length : Int)).mono ?_
                  clear HS
                  rintro e w900808 ⟨rfl, HS⟩
                  refine ⟨_, rfl, ?_⟩
                  refine p_run (l' := _) _ (x_move (.tuple [.agg ((nums .u8 (S.stabP (S.stable.length : Int)))).toArray, .int .i64 (S.pageE (S.stable.length : Int))].toArray) rfl rfl) rfl ?_
                  refine p_run (l' := _) _ (x_extract (vs := [.agg ((nums .u8 (S.stabP (S.stable.length : Int)))).toArray, .int .i64 (S.pageE (S.stable.length : Int))]) 0 (.agg ((nums .u8 (S.stabP (S.stable.length : Int)))).toArray) rfl rfl rfl) rfl ?_
                  refine p_run (l' := (.int .i64 pages :: .slice A1 l1.length c1 :: undef :: undef :: u4 :: .pointer (some ⟨D22, 0, none⟩) :: .pointer (some ⟨g34, 0, none⟩) :: undef :: q44.b :: q44.c :: q44.d :: q44.e :: q44.f :: q44.g :: q44.h :: u15 :: u16 :: u17 :: undef :: undef :: .bool true :: .bool false :: .int .i64 pages :: .bool false :: .bool false :: .slice A1 l1.length c1 :: .int .i64 (l1.length : Int) :: .bool false :: .bool false :: .int .i64 pages :: .pointer (some ⟨D22, 0, none⟩) :: .int .i64 pages :: rkV v31 v32 (.slice none 0 0) (Rk.new pages) :: .slice A1 l1.length c1 :: .int .i64 (l1.length : Int) :: .int .i64 (i : Int) :: .bool (decide ((i : Int) < (l1.length : Int))) :: q45.b :: q45.c :: q45.d :: q45.e :: q45.f :: q45.g :: q45.h :: V8.l q46 (V8.l q47 (V8.l q48 (V8.l q49 (V8.l q50 (V8.l q51 (V8.l q52 (V8.l q53 (V8.l q54 (V8.l q55 (V8.l q56 (V8.l q57 (V8.l q58 (q59.a :: q59.b :: q59.c :: q59.d :: .pointer (some ⟨g34, 0, none⟩) :: .slice A901154 R.stable.length c901155 :: .int .i64 (R.stable.length : Int) :: .int .i64 (k : Int) :: .bool (decide ((k : Int) < (R.stable.length : Int))) :: u157 :: u158 :: u159 :: u160 :: u161 :: u162 :: u163 :: u164 :: u165 :: u166 :: u167 :: u168 :: u169 :: u170 :: u171 :: u172 :: u173 :: u174 :: u175 :: .tuple [.agg ((nums .u8 (S.stabP (S.stable.length : Int)))).toArray, .int .i64 (S.pageE (S.stable.length : Int))].toArray :: .pointer (some ⟨D22, 0, none⟩) :: .pointer (some ⟨D22, 0, none⟩) :: .int .i64 (S.stable.length : Int) :: .tuple [.agg ((nums .u8 (S.stabP (S.stable.length : Int)))).toArray, .int .i64 (S.pageE (S.stable.length : Int))].toArray :: .agg ((nums .u8 (S.stabP (S.stable.length : Int)))).toArray :: .int .i64 (S.pageE (S.stable.length : Int)) :: U8L4g (undef :: undef :: [])))))))))))))))) _ (x_extract (vs := [.agg ((nums .u8 (S.stabP (S.stable.length : Int)))).toArray, .int .i64 (S.pageE (S.stable.length : Int))]) 1 (.int .i64 (S.pageE (S.stable.length : Int))) rfl rfl rfl) rfl ?_
                  refine St.wAlloc HS (cs := ((nums .u8 zpg))) (.agg ((nums .u8 zpg)).toArray) (by kernel_rfl) rfl ?_
                  clear HS
                  intro g900809 w900810 hg900811 HS
                  refine St.stores (cs' := ((nums .u8 (S.stabP (S.stable.length : Int))))) HS ((nums .u8 (S.stabP (S.stable.length : Int)))) 256 rfl rfl (nums_one _ _) (by kernel_rfl) (by simp [nums_length, stabP_len hG2.ok]) (by simp [nums_length, stabP_len hG2.ok, zlen]) (lay_all _ _ (by simp [nums_length, stabP_len hG2.ok, zlen])) ?_
                  clear HS
                  intro w900812 HS
                  refine p_run (l' := _) _ (x_assign (.int .i64 (S.pageE (S.stable.length : Int))) rfl rfl) rfl ?_
                  refine wpList_nil ?_
                  refine hK900805 _ _ ?_
                  refine wp_seq_k (fun K900813 hK900814 => ?_)
                  refine free_frame (n := 11) (T := _) [0, 1, 3, 7, 15, 7, 39, 103, 255, 511, 1023] [(0, 183), (1, 184), (2, 185), (3, 186), (4, 187), (5, 188), (6, 189), (7, 190), (8, 191), (9, 192), (10, 4)] (fun bq_ vq_ w_ => qv ((fun i_ => match i_ with | 0 => some (.int .i64 (S.pageE (S.stable.length : Int))) | 1 => some (.bool true) | 2 => some (.bool true) | 3 => some (.pointer (some ⟨D22, 0, none⟩)) | 4 => some (.int .i64 (S.stable.length : Int)) | 5 => some (.pointer (some ⟨g34, 0, none⟩)) | 6 => some (.slice A901154 R.stable.length c901155) | 7 => some (.int .i64 (R.stable.length : Int)) | 8 => some (.bool true) | 9 => some (.bool true) | 10 => some (.bool true) | _ => none) : Nat → Option Value) bq_ vq_ ∧ (St w (fun _ => False) w_ ([blk g900809 ((nums .u8 (S.stabP (S.stable.length : Int)))) 31, blk D22 (dskC gs23 gm24 v S) 66, blk gs23 (pgs S.stable) 31, mapR gm24 S.cnt S.bad, row kWr rfl 71 v S.pending, row kPg rfl 31 (.slice A901154 R.stable.length c901155) R.stable, row Kd.bool rfl 4 vb R.bad, row kWr rfl 74 vp R.pending, blk g34 [.slice A901154 R.stable.length c901155, vb, vp, .bool R.counted, .int .i64 R.left, .bool R.down] 51]))) (by kernel_rfl) rfl rfl (by kernel_rfl) (by kernel_rfl) rfl (by kernel_rfl) (by kernel_rfl) ⟨qv_none, HS.draw⟩ ?_ ?_
                  · clear HS
                    intro i_ hi_ bq_ vq_ a_ w_ hG hb_ hon hoff hfr hel hval
                    obtain ⟨hV, hE⟩ := hG
                    have hi_ := List.mem_range.1 hi_
                    obtain ⟨l_, rfl⟩ := hfr
                    have hv_ := fun (j t : Nat) (v : Value) (h1 : (j, t) ∈ [(0, 183), (1, 184), (2, 185), (3, 186), (4, 187), (5, 188), (6, 189), (7, 190), (8, 191), (9, 192), (10, 4)]) h2 h3 => (hval (j, t) h1 h3).trans (congrArg some (hV j v h2 h3))
                    have hcs : i_ = 0 ∨ i_ = 1 ∨ i_ = 2 ∨ i_ = 3 ∨ i_ = 4 ∨ i_ = 5 ∨ i_ = 6 ∨ i_ = 7 ∨ i_ = 8 ∨ i_ = 9 ∨ i_ = 10 := by omega
                    rcases hcs with rfl | rfl | rfl | rfl | rfl | rfl | rfl | rfl | rfl | rfl | rfl
                    · have e19 : evl l_ (.tmp 19) = .int .i64 (S.pageE (S.stable.length : Int)) := evl_of ((hel 19 (by decide)).trans rfl)
                      exact ⟨_, rfl, fun K_ hK_ => q_op _ (x_move (.int .i64 (S.pageE (S.stable.length : Int))) rfl e19) (hK_ _ _ ⟨qv_up hV (fun _ h => Option.some.inj h), hE⟩)⟩
                    · have e183 : evl l_ (.tmp 183) = .int .i64 (S.pageE (S.stable.length : Int)) := evl_of (hv_ 0 183 _ (by decide) rfl (hon 0 (by decide)))
                      exact ⟨_, rfl, fun K_ hK_ => q_op _ (x_cmp (k := .i64) (m := (S.pageE (S.stable.length : Int))) (n := 41) .eql true rfl e183 rfl (by unfold cmpB; rw [rdp_no]; rfl) rfl) (hK_ _ _ ⟨qv_up hV (fun _ h => Option.some.inj h), hE⟩)⟩
                    · have e184 : evl l_ (.tmp 184) = .bool true := evl_of (hv_ 1 184 _ (by decide) rfl (hon 1 (by decide)))
                      exact ⟨_, rfl, fun K_ hK_ => q_op _ (x_move (.bool true) rfl e184) (hK_ _ _ ⟨qv_up hV (fun _ h => Option.some.inj h), hE⟩)⟩
                    · have h185 : (fr l_).tmps[185]? = some (.bool true) := hv_ 2 185 _ (by decide) rfl (hon 2 (by decide))
                      have e5 : evl l_ (.tmp 5) = .pointer (some ⟨D22, 0, none⟩) := evl_of ((hel 5 (by decide)).trans rfl)
                      have e185 : evl l_ (.tmp 185) = .bool true := evl_of h185
                      exact ⟨_, rfl, fun K_ hK_ => q_opG (wanted_on (t := 185) rfl rfl rfl h185) _ (x_move (.pointer (some ⟨D22, 0, none⟩)) rfl e5) (hK_ _ _ ⟨qv_up hV (fun _ h => Option.some.inj h), hE⟩)⟩
                    · have h185 : (fr l_).tmps[185]? = some (.bool true) := hv_ 2 185 _ (by decide) rfl (hon 2 (by decide))
                      have hE0 := hE
                      have HS := hE0
                      have e185 : evl l_ (.tmp 185) = .bool true := evl_of h185
                      have e186 : evl l_ (.tmp 186) = .pointer (some ⟨D22, 0, none⟩) := evl_of (hv_ 3 186 _ (by decide) rfl (hon 3 (by decide)))
                      refine ⟨_, rfl, fun K_ hK_ => wp_of_listG rfl (wanted_on (t := 185) rfl rfl rfl h185) ?_⟩
                      intro ops_
                      refine w_call [.pointer (some ⟨D22, 0, none⟩)] Try.func21 (by kernel_rfl) (by rfl) (by simp only [List.map_cons, List.map_nil, e186] <;> rfl) ?_
                      replace HS := ((((HS.front 4 rfl).front 4 rfl).front 4 rfl).front 4 rfl)
                      refine (len_any HS).mono ?_
                      rintro e w' ⟨rfl, rfl⟩
                      refine ⟨_, rfl, ?_⟩
                      refine wpList_nil ?_
                      exact norm_put (hK_ (.int .i64 (S.stable.length : Int)) _ ⟨qv_up hV (fun _ h => Option.some.inj h), hE⟩)
                    · have h185 : (fr l_).tmps[185]? = some (.bool true) := hv_ 2 185 _ (by decide) rfl (hon 2 (by decide))
                      have e6 : evl l_ (.tmp 6) = .pointer (some ⟨g34, 0, none⟩) := evl_of ((hel 6 (by decide)).trans rfl)
                      have e185 : evl l_ (.tmp 185) = .bool true := evl_of h185
                      exact ⟨_, rfl, fun K_ hK_ => q_opG (wanted_on (t := 185) rfl rfl rfl h185) _ (x_field (j := 0) _ _ rfl e6 Try.underlying51 rfl (by rfl) rfl) (hK_ _ _ ⟨qv_up hV (fun _ h => Option.some.inj h), hE⟩)⟩
                    · have h185 : (fr l_).tmps[185]? = some (.bool true) := hv_ 2 185 _ (by decide) rfl (hon 2 (by decide))
                      have hE0 := hE
                      have HS := hE0
                      have e185 : evl l_ (.tmp 185) = .bool true := evl_of h185
                      have e188 : evl l_ (.tmp 188) = .pointer (some ⟨g34, 0, none⟩) := evl_of (hv_ 5 188 _ (by decide) rfl (hon 5 (by decide)))
                      exact ⟨_, rfl, fun K_ hK_ => q_opG (wanted_on (t := 185) rfl rfl rfl h185) _ (x_load (.slice A901154 R.stable.length c901155) rfl e188 (bkCell (HS.get (.tail _ (.tail _ (.tail _ (.tail _ (.tail _ (.tail _ (.tail _ (.tail _ (.head _)))))))))) 0 _ rfl) (by rfl)) (hK_ _ _ ⟨qv_up hV (fun _ h => Option.some.inj h), hE⟩)⟩
                    · have h185 : (fr l_).tmps[185]? = some (.bool true) := hv_ 2 185 _ (by decide) rfl (hon 2 (by decide))
                      have hE0 := hE
                      have HS := hE0
                      have e185 : evl l_ (.tmp 185) = .bool true := evl_of h185
                      have e189 : evl l_ (.tmp 189) = .slice A901154 R.stable.length c901155 := evl_of (hv_ 6 189 _ (by decide) rfl (hon 6 (by decide)))
                      exact ⟨_, rfl, fun K_ hK_ => q_opG (wanted_on (t := 185) rfl rfl rfl h185) _ (x_len rfl e189 Try.underlying48) (hK_ _ _ ⟨qv_up hV (fun _ h => Option.some.inj h), hE⟩)⟩
                    · have h185 : (fr l_).tmps[185]? = some (.bool true) := hv_ 2 185 _ (by decide) rfl (hon 2 (by decide))
                      have e185 : evl l_ (.tmp 185) = .bool true := evl_of h185
                      have e187 : evl l_ (.tmp 187) = .int .i64 (S.stable.length : Int) := evl_of (hv_ 4 187 _ (by decide) rfl (hon 4 (by decide)))
                      have e190 : evl l_ (.tmp 190) = .int .i64 (R.stable.length : Int) := evl_of (hv_ 7 190 _ (by decide) rfl (hon 7 (by decide)))
                      exact ⟨_, rfl, fun K_ hK_ => q_opG (wanted_on (t := 185) rfl rfl rfl h185) _ (x_cmp (k := .i64) (m := (S.stable.length : Int)) (n := (R.stable.length : Int)) .eql true rfl e187 e190 (by unfold cmpB; rw [hRD2.st]; simp) rfl) (hK_ _ _ ⟨qv_up hV (fun _ h => Option.some.inj h), hE⟩)⟩
                    · have e185 : evl l_ (.tmp 185) = .bool true := evl_of (hv_ 2 185 _ (by decide) rfl (hon 2 (by decide)))
                      have e191 : evl l_ (.tmp 191) = .bool true := evl_of (hv_ 8 191 _ (by decide) rfl (hon 8 (by decide)))
                      exact ⟨_, rfl, fun K_ hK_ => q_op _ (x_pick true (.bool true) (.bool false) (.bool true) rfl e185 e191 rfl rfl) (hK_ _ _ ⟨qv_up hV (fun _ h => Option.some.inj h), hE⟩)⟩
                    · have e192 : evl l_ (.tmp 192) = .bool true := evl_of (hv_ 9 192 _ (by decide) rfl (hon 9 (by decide)))
                      exact ⟨_, rfl, fun K_ hK_ => q_op _ (x_assign (.bool true) rfl e192) (hK_ _ _ ⟨qv_up hV (fun _ h => Option.some.inj h), hE⟩)⟩
                  intro bq_ vq_ w_ hall hG
                  obtain ⟨hV, hE⟩ := hG
                  clear HS
                  have HS := hE
                  have hv0 := hV 0 _ rfl (hall 0 (by decide))
                  have hv1 := hV 1 _ rfl (hall 1 (by decide))
                  have hv2 := hV 2 _ rfl (hall 2 (by decide))
                  have hv3 := hV 3 _ rfl (hall 3 (by decide))
                  have hv4 := hV 4 _ rfl (hall 4 (by decide))
                  have hv5 := hV 5 _ rfl (hall 5 (by decide))
                  have hv6 := hV 6 _ rfl (hall 6 (by decide))
                  have hv7 := hV 7 _ rfl (hall 7 (by decide))
                  have hv8 := hV 8 _ rfl (hall 8 (by decide))
                  have hv9 := hV 9 _ rfl (hall 9 (by decide))
                  have hv10 := hV 10 _ rfl (hall 10 (by decide))
                  clear hV hall
                  rw [putSel_fr]
                  simp only [tells, List.map_cons, List.map_nil, setAll, List.set_cons_succ, List.set_cons_zero, hv0, hv1, hv2, hv3, hv4, hv5, hv6, hv7, hv8, hv9, hv10]
                  clear hv0 hv1 hv2 hv3 hv4 hv5 hv6 hv7 hv8 hv9 hv10
                  generalize w_ = w900701 at HS ⊢
                  refine fr_at (l' := (.int .i64 pages :: .slice A1 l1.length c1 :: undef :: undef :: .bool true :: .pointer (some ⟨D22, 0, none⟩) :: .pointer (some ⟨g34, 0, none⟩) :: undef :: q44.b :: q44.c :: q44.d :: q44.e :: q44.f :: q44.g :: q44.h :: u15 :: u16 :: u17 :: .pointer (some ⟨g900809, 0, none⟩) :: .int .i64 (S.pageE (S.stable.length : Int)) :: .bool true :: .bool false :: .int .i64 pages :: .bool false :: .bool false :: .slice A1 l1.length c1 :: .int .i64 (l1.length : Int) :: .bool false :: .bool false :: .int .i64 pages :: .pointer (some ⟨D22, 0, none⟩) :: .int .i64 pages :: rkV v31 v32 (.slice none 0 0) (Rk.new pages) :: .slice A1 l1.length c1 :: .int .i64 (l1.length : Int) :: .int .i64 (i : Int) :: .bool (decide ((i : Int) < (l1.length : Int))) :: q45.b :: q45.c :: q45.d :: q45.e :: q45.f :: q45.g :: q45.h :: V8.l q46 (V8.l q47 (V8.l q48 (V8.l q49 (V8.l q50 (V8.l q51 (V8.l q52 (V8.l q53 (V8.l q54 (V8.l q55 (V8.l q56 (V8.l q57 (V8.l q58 (q59.a :: q59.b :: q59.c :: q59.d :: .pointer (some ⟨g34, 0, none⟩) :: .slice A901154 R.stable.length c901155 :: .int .i64 (R.stable.length : Int) :: .int .i64 (k : Int) :: .bool (decide ((k : Int) < (R.stable.length : Int))) :: u157 :: u158 :: u159 :: u160 :: u161 :: u162 :: u163 :: u164 :: u165 :: u166 :: u167 :: u168 :: u169 :: u170 :: u171 :: u172 :: u173 :: u174 :: u175 :: .tuple [.agg ((nums .u8 (S.stabP (S.stable.length : Int)))).toArray, .int .i64 (S.pageE (S.stable.length : Int))].toArray :: .pointer (some ⟨D22, 0, none⟩) :: .pointer (some ⟨D22, 0, none⟩) :: .int .i64 (S.stable.length : Int) :: .tuple [.agg ((nums .u8 (S.stabP (S.stable.length : Int)))).toArray, .int .i64 (S.pageE (S.stable.length : Int))].toArray :: .agg ((nums .u8 (S.stabP (S.stable.length : Int)))).toArray :: .int .i64 (S.pageE (S.stable.length : Int)) :: .int .i64 (S.pageE (S.stable.length : Int)) :: .bool true :: .bool true :: .pointer (some ⟨D22, 0, none⟩) :: .int .i64 (S.stable.length : Int) :: .pointer (some ⟨g34, 0, none⟩) :: .slice A901154 R.stable.length c901155 :: .int .i64 (R.stable.length : Int) :: .bool true :: .bool true :: []))))))))))))))) rfl ?_
                  refine hK900814 _ _ ?_
                  refine wp_ret ?_
                  try simp only [Exit.inBlock, Exit.then]
                  refine c_ret (.bool true) (r_tmp rfl rfl) ?_
                  exact ⟨rfl, HS.belowOf⟩

theorem druns_any (pages : Int) (A1 : Option Addr) (c1 : Nat) (l1 : List dAT) (w : World) (hr1 : kdA.C w A1 l1.length l1) (hg1 : ∀ y ∈ l1, dAG y) : Calls Try.prog 8 #[.int .i64 pages, .slice A1 l1.length c1] w fun e w' => e = .returned (.bool true) ∧ Below w.heap.size w w' := druns_law w pages A1 c1 l1 hr1 hg1
end Go.Proofs.Ytjholgfaipfmbaa
