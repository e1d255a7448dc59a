/- EndsRuns. -/
import Derived.Test.YtkpkkmffcbeigaaNumRef
import Derived.Test.YtkpkkmffcbeigaaFreeOne
namespace Go.Proofs.Ytkpkkmffcbeigaa
open Go.RowKit Go.Proofs.YtkpkkmffcbeigaaW.PrintWords Go.Proofs.YtkpkkmffcbeigaaW.PrintLast

def kAct : Kd (Int × Int) := Kd.pair (Kd.int .i64) (Kd.int .i64)
abbrev RA (w : World) (A : Option Addr) (l : List (Int × Int)) : Prop := kAct.C w A l.length l
theorem RA.at {w : World} {A : Option Addr} {l : List (Int × Int)} (h : RA w A l) (k : Nat) (hk : k < l.length) : ∃ ad, A = some ad ∧ w.cell? (ad.add (k * 2)) = some (.int .i64 l[k].1) ∧ w.cell? ⟨(ad.add (k * 2)).block, (ad.add (k * 2)).off + 1, none⟩ = some (.int .i64 l[k].2) := by
  obtain ⟨ad, e, hc⟩ := h.2.2 (by omega)
  obtain ⟨c, hl, hr, hcell⟩ := hc k _ (List.getElem?_eq_getElem hk)
  obtain ⟨c0, c1, rfl, h0, h1⟩ := hr
  have h0' : c0 = [.int .i64 l[k].1] := h0
  have h1' : c1 = [.int .i64 l[k].2] := h1
  subst h0'; subst h1'
  refine ⟨ad, e, ?_, ?_⟩
  · exact hcell 0 _ rfl
  · have h3 := hcell 1 _ rfl
    have h4 : ((ad.add (k * 2)).add 1) = ⟨(ad.add (k * 2)).block, (ad.add (k * 2)).off + 1, none⟩ := rfl
    rw [← h4, addr_add]
    exact h3
theorem RA.below {w w1 : World} {A : Option Addr} {l : List (Int × Int)} (h : RA w A l) (hb : Below w.heap.size w w1) : RA w1 A l := Kd.C_below h hb
theorem sl_quiet {R : Nat} {w w' : World} {A : Option Addr} {c : Nat} {xs : List UInt8} (h : Sl w A c xs) (hn : 0 < xs.length → ∀ a, A = some a → a.block ≠ R) (hg : Tq R w w') : Sl w' A c xs := by
  refine ⟨Rd.of_cells h.small fun h0 => ?_, h.cap, h.nil⟩
  obtain ⟨ad, e, _⟩ := h.rd.at 0 h0
  refine ⟨ad, e, fun k hk => ?_⟩
  obtain ⟨ad', e', hc⟩ := h.rd.at k hk
  rw [e] at e'
  injection e' with e'
  subst e'
  have h1 := World.block_lt_of_cell? _ _ hc
  exact (World.grownBy.cell_far hg _ h1 (by rw [addr_block]; simp only [ne_eq, Option.some.injEq]; exact hn h0 _ e)).trans hc
theorem take_o (base R : Nat) (xs : List UInt8) (f : Bool) (n : Int) (w : World) (os : List UInt8) (ho : takeOut xs f n = os) (hr : RdrX w base R xs f) (hl : xs.length ≤ 140737488355000) :
    Calls Try.prog 19 #[.pointer (some ⟨R, 0, none⟩), .int .i64 n] w fun e w' => ∃ A' c', e = .returned (.slice A' os.length c') ∧ Sl w' A' c' os ∧ (0 < os.length → ∀ a, A' = some a → a.block ≠ R) ∧ RdrX w' base R (takeRest xs f n) (takeBad xs f n) ∧ w.grownBy w' (some R) := by
  subst ho
  obtain ⟨A, c, hr⟩ := hr
  refine (take_any base R xs f A c n w hr hl).mono ?_
  rintro e w' ⟨A', c', rfl, h1, h3, h2⟩
  exact ⟨A', c', rfl, h1, fun h0 a e => by have := h3 h0 a e; have := hr.lt; omega, h2⟩

theorem drop_empty (b : List UInt8) (p : Nat) (h : p ≤ b.length) (f : Bool) : (!f && (b.drop p).isEmpty) = (!f && ((b.length : Int) - p == 0)) := by
  congr 1
  rw [Bool.eq_iff_iff, List.isEmpty_iff_length_eq_zero, List.length_drop, beq_iff_eq]
  omega
theorem left_o (base R : Nat) (xs : List UInt8) (f : Bool) (w : World) (n : Int) (hn : (xs.length : Int) = n) (hr : RdrX w base R xs f) : Calls Try.prog 15 #[.pointer (some ⟨R, 0, none⟩)] w fun e w' => e = .returned (.int .i64 n) ∧ w = w' := by
  subst hn; exact left_n base R xs f w hr
theorem bv_inc (y : UInt8) : (bv y + 1) % 256 = bv (y + 1) := by
  unfold bv
  rw [UInt8.toNat_add, show (1 : UInt8).toNat = 1 from rfl]
  omega
theorem cells2 {w : World} {g : Nat} {a b : Value} {t : TypeId} (h : w.heap[g]? = some (.cells #[a, b] t)) :
    w.cell? ⟨g, 0, none⟩ = some a ∧ w.cell? ⟨g, 1, none⟩ = some b ∧ w.frozen? ⟨g, 0, none⟩ = false ∧ w.frozen? ⟨g, 1, none⟩ = false := by
  refine ⟨?_, ?_, ?_, ?_⟩
  · unfold World.cell?; rw [h]; rfl
  · unfold World.cell?; rw [h]; rfl
  · unfold World.frozen?; rw [h]; rfl
  · unfold World.frozen?; rw [h]; rfl
theorem rdr_three {w : World} {base R g : Nat} {xs : List UInt8} {f : Bool} (h : RdrX w base R xs f) (hg : R < g) (a b c : Value) : RdrX (((w.setCell ⟨g, 0, none⟩ a).setCell ⟨g, 1, none⟩ b).setCell ⟨g, 2, none⟩ c) base R xs f := by
  obtain ⟨A, d, h⟩ := h
  refine ⟨A, d, h.kept fun j _ hj => ?_⟩
  have h1 : j ≠ g := by omega
  rw [Below.heap_setCell _ _ _ _ h1, Below.heap_setCell _ _ _ _ h1, Below.heap_setCell _ _ _ _ h1]
theorem heap_three {w : World} {g : Nat} {x y z : Value} {t : TypeId} (h : w.heap[g]? = some (.cells #[x, y, z] t)) (a b c : Value) : (((w.setCell ⟨g, 0, none⟩ a).setCell ⟨g, 1, none⟩ b).setCell ⟨g, 2, none⟩ c).heap[g]? = some (.cells #[a, b, c] t) := by
  have h1 := heap_setCell_same w g 0 _ t a h
  have h2 := heap_setCell_same _ g 1 _ t b h1
  have h3 := heap_setCell_same _ g 2 _ t c h2
  exact h3
theorem RdrX.set {w : World} {base R g k : Nat} {xs : List UInt8} {f : Bool} (h : RdrX w base R xs f) (hg : g < base) (v : Value) : RdrX (w.setCell ⟨g, k, none⟩ v) base R xs f := by
  obtain ⟨A, c, h⟩ := h
  exact ⟨A, c, h.kept fun j hj _ => Below.heap_setCell _ _ _ _ (by show j ≠ g; omega)⟩

attribute [local go_sem] strB_list
set_option maxRecDepth 100000 in
set_option maxHeartbeats 40000000 in
theorem endsRuns_any (A : Option Addr) (c : Nat) (b : List UInt8) (L : Option Addr) (cL : Nat) (l : List (Int × Int)) (w : World) (hr : Sl w A c b) (hL : RA w L l) :
    Calls Try.prog 7 #[.slice A b.length c, .slice L l.length cL] w fun e w' => e = .returned (.bool true) ∧ Below w.heap.size w w' := by
  have n1 := hr.small
  have n2 := hL.2.1
  have HR := Lib.hid hr
  have HL := Lib.hid hL
  clear hr hL
  by_cases hb : b.length ≤ 500
  · by_cases hl : l.length ≤ 100
    · have g1 : ¬ ((500 : Int) < b.length) := by omega
      have g2 : ¬ ((100 : Int) < l.length) := by omega
      go_enter Try.func7, Try.ntmps7
      go_wp2_with (first
        | (go_at_call 9; refine (endsAlive_any _).mono ?_; rintro e w1 ⟨rfl, HB⟩; have HB1 := Lib.hid HB; have HR1 := Lib.hid (HR.out.below HB); clear HB)
        | (at_builtin; refine own_append w1.heap.size rfl (.tmp 26) (.tmp 27) rfl _ _ b _ _ _ (Own.empty w1) (HR1.out.below (alloc_below _ _)).rd rfl rfl rfl (by simp) (by simp; omega) ?_; intro v w2 HO HG _; have HO2 := Lib.hid HO; have hbb := slots (alloc_below w1 (.cells #[] 5)) _ HG (Own.base (Own.empty w1)); have HB2 := Lib.hid (below_step HB1.out hbb); have HBs := Lib.hid hbb.size; clear HO HG hbb; obtain ⟨Ao, co, rfl, hso⟩ := HO2.out.sl; have HS2 : Hid (Sl w2 Ao co b) := Lib.hid hso; clear hso)
        | (go_at_call 12; refine (new_n _ _ _ b _ (by simp) HS2.out (by omega)).mono ?_; rintro e w3 ⟨R, rfl, hR, hb3⟩; have HR3 := Lib.hid hR; have HB3 := Lib.hid hb3; clear hR hb3))
      generalize hbase : w2.heap.size = base at *
      have HBase := Lib.hid hbase
      clear hbase
      have HGf := Lib.hid (show 0 < b.length → ∃ g, Ao = some ⟨g, 0, none⟩ ∧ w1.heap.size ≤ g ∧ g < base by
        intro h0
        obtain ⟨g, c', e, _, h1, h2, _⟩ := HO2.out.form (by simpa using h0)
        injection e with e _ _
        exact ⟨g, e, h1, by rw [← HBase.out]; exact h2⟩)
      go_loopw [33] (fun i wr => ∃ (k : Nat) (ys : List UInt8), k ≤ b.length ∧ ys.length = b.length ∧ i = .int .i64 k ∧ Own wr w1.heap.size (.slice Ao ys.length co) ys ∧ RdrX wr base R b false ∧ Below w1.heap.size w2 wr) (fun i _ => b.length - (intOf i).toNat)
      case atStart => exact ⟨0, b, by omega, rfl, rfl, HO2.out.below (by rw [HBase.out]; exact HB3.out), HR3.out, HB3.out.mono HBs.out⟩
      case round =>
        obtain ⟨k, ys, hk, hys, rfl, hO, hR, hB⟩ := hrel
        have HOr := Lib.hid hO
        have HRr := Lib.hid hR
        have HBr := Lib.hid hB
        clear hO hR hB HO2 HR3 HB3
        by_cases hlt : k < b.length
        · obtain ⟨g, c', e, hcc, hg0, hg1, hcell, hfz, hset⟩ := HOr.out.form (by omega)
          obtain ⟨g', e', hg2, hg3⟩ := HGf.out (by omega)
          subst e'
          injection e with e1 _ e2
          injection e1 with e1
          injection e1 with e1 _ _
          subst e1; subst e2
          have hx := hcell k (by omega)
          have hz := hfz k
          have hs1 := hset k (ys[k] + 1)
          have HS := Lib.hid hs1
          have HI := Lib.hid (bv_inc ys[k])
          clear hcell hfz hset hs1
          generalize ys[k] = y at hx HS HI
          go_wp2
          go_roundw
          case rel =>
            rw [HI.out]
            exact ⟨k + 1, ys.set k (y + 1), by omega, by rw [List.length_set]; exact hys, by go_num, by rw [List.length_set]; exact HS.out, HRr.out.set hg3 _, HBr.out.setCell (p := ⟨g', k, none⟩) hg2 _⟩
          case measure => simp [intOf]; omega
        · obtain rfl : k = b.length := by omega
          have HBw := Lib.hid (HB2.out.trans (HBr.out.mono HB1.out.size))
          have HRb := Lib.hid (HR.out.below HBw.out)
          have hsz : base ≤ wr.heap.size := by rw [← HBase.out]; exact HBr.out.size
          have hwb : w.heap.size ≤ base := by rw [← HBase.out]; exact HB2.out.size
          clear HOr HBr HB1 HB2 HS2 HR1
          have hRlt : R < wr.heap.size := by obtain ⟨_, _, h⟩ := HRr.out; exact h.lt
          have hwWB : w.heap.size ≤ wr.heap.size := HBw.out.size
          go_wp2
          have HQ0 := Lib.hid (heap_alloc_new wr (.cells #[.slice A b.length c, .int .i64 0, .bool false] 40))
          have HBw0 := Lib.hid (below_step HBw.out (alloc_below wr (.cells #[.slice A b.length c, .int .i64 0, .bool false] 40)))
          have HRr0 := Lib.hid (HRr.out.below (alloc_below wr (.cells #[.slice A b.length c, .int .i64 0, .bool false] 40)))
          have hz0 : wr.heap.size < (wr.alloc (.cells #[.slice A b.length c, .int .i64 0, .bool false] 40)).heap.size := by simp
          clear HBw HRb HRr
          generalize wr.heap.size = WB at *
          generalize wr.alloc (.cells #[.slice A b.length c, .int .i64 0, .bool false] 40) = w0 at *
          go_loopw [47] (fun i wq => ∃ (k at_ : Nat) (f : Bool), k ≤ l.length ∧ at_ ≤ b.length ∧ i = .int .i64 k ∧ RdrX wq base R (b.drop at_) f ∧ wq.heap[WB]? = some (.cells #[.slice A b.length c, .int .i64 at_, .bool f] 40) ∧ Below w.heap.size w wq) (fun i _ => l.length - (intOf i).toNat)
          case atStart => exact ⟨0, 0, false, by omega, by omega, rfl, by rw [List.drop_zero]; exact HRr0.out, HQ0.out, HBw0.out⟩
          case round =>
            obtain ⟨k, at_, f, hk, hat, rfl, hRq, hQ, hBq⟩ := hrel
            have HRq := Lib.hid hRq
            have HQ := Lib.hid hQ
            have HBq := Lib.hid hBq
            clear hRq hQ hBq HRr0 HQ0 HBw0
            by_cases hlt2 : k < l.length
            · obtain ⟨ad, e, hx0, hx1⟩ := (HL.out.below HBq.out).at k hlt2
              cases e
              generalize l[k] = p at hx0 hx1
              obtain ⟨K, N⟩ := p
              dsimp only at hx0 hx1
              have HRb := Lib.hid (HR.out.below HBq.out)
              have hWq : WB < wr.heap.size := World.block_lt_of_cell? wr ⟨WB, 0, none⟩ (cells3 HQ.out).1
              obtain ⟨y0, y1, y2, y3, y4, y5⟩ := cells3 HQ.out
              have hdl : (b.drop at_).length ≤ 500 := by rw [List.length_drop]; omega
              have HDL := Lib.hid hdl
              have hbq : base ≤ wr.heap.size := by omega
              clear hdl
              by_cases h0 : K = 0
              · subst h0
                have HV := Lib.hid (show numB (takeOut (b.drop at_) (f || !wideB N) N) = (leN (takeOut (b.drop at_) (f || !wideB N) N) : Int) from numB_eq _ (takeOut_wide _ _ _))
                have HTL := Lib.hid (takeAt_le b at_ (f || !wideB N) N hat)
                have HTR := Lib.hid (takeAt_rest b at_ (f || !wideB N) N)
                have HRC := Lib.hid (rnum_any A c b at_ f N)
                have hvv : ∃ v : Nat, leN (takeOut (b.drop at_) (f || !wideB N) N) = v := ⟨_, rfl⟩
                obtain ⟨v, hv⟩ := hvv
                rw [hv] at HV HRC
                clear hv
                generalize hp2 : takeAt b at_ (f || !wideB N) N = p2 at HRC HTL HTR
                generalize hf2 : takeBad (b.drop at_) (f || !wideB N) N = f2 at HRC
                have HF2 := Lib.hid hf2
                clear hp2 hf2
                unfold rdrV at HRC
                have hp2 : p2 ≤ b.length := HTL.out
                cases f2
                · go_wp2_with (first
                  | (go_at_call 17; refine (HRC.out _ (HRb.out.below (alloc_below _ _)) hat (by omega)).mono ?_; rintro e w5 ⟨rfl, hb5⟩; have hq5 : w5.heap[WB]? = some (.cells #[.slice A b.length c, .int .i64 at_, .bool f] 40) := (hb5.block WB (by simp <;> omega)).trans ((Below.heap_alloc _ _ _ hWq).trans HQ.out); have hn5 : w5.heap[wr.heap.size]? = some (.cells #[.int .i64 0, .int .i64 N] 42) := (hb5.block wr.heap.size (by simp)).trans (heap_alloc_new wr _); obtain ⟨d0, d1, d2, d3, d4, d5⟩ := cells3 hq5; obtain ⟨m0, m1, m2, m3⟩ := cells2 hn5; have hs5 : wr.heap.size + 1 ≤ w5.heap.size := (by have := hb5.size; simpa using this); have HB5 := Lib.hid (below_step (below_step HBq.out (alloc_below _ _)) hb5); have HR5 := Lib.hid ((HRq.out.below (alloc_below _ _)).below hb5); have HQ5 := Lib.hid hq5; have HN5 := Lib.hid hn5; have hw5 : WB < w5.heap.size := (by omega); have hw5b : wr.heap.size < w5.heap.size := (by omega); have u1 : ¬ (WB = wr.heap.size) := (by omega); have u2 : ¬ (wr.heap.size = WB) := (by omega); have u3 : ¬ (w5.heap.size = WB) := (by omega); have u4 : ¬ (WB = w5.heap.size) := (by omega); clear hq5 hn5 hb5)
                  | (go_at_call 13; refine (num_n base R (b.drop at_) f N _ v (b.drop p2) false ((rdr_three HR5.out hRlt _ _ _).below (alloc_below _ _)) (by have := HDL.out; omega) HV.out HTR.out.symm HF2.out).mono ?_; rintro e w6 ⟨rfl, hR6, hg6⟩; have hqx := (Below.heap_alloc (((w5.setCell ⟨WB, 0, none⟩ (.slice A b.length c)).setCell ⟨WB, 1, none⟩ (.int .i64 p2)).setCell ⟨WB, 2, none⟩ (.bool false)) (.cells #[.slice A b.length c, .int .i64 p2, .bool false] 40) WB (by simp [World.setCell] <;> omega)).trans (heap_three HQ5.out (.slice A b.length c) (.int .i64 p2) (.bool false)); have hbs := ((HB5.out.setCell (p := ⟨WB, 0, none⟩) hwWB (.slice A b.length c)).setCell (p := ⟨WB, 1, none⟩) hwWB (.int .i64 p2)).setCell (p := ⟨WB, 2, none⟩) hwWB (.bool false); have hbx := hbs.alloc hbs.size (.cells #[.slice A b.length c, .int .i64 p2, .bool false] 40); have hsx : base ≤ ((((w5.setCell ⟨WB, 0, none⟩ (.slice A b.length c)).setCell ⟨WB, 1, none⟩ (.int .i64 p2)).setCell ⟨WB, 2, none⟩ (.bool false)).alloc (.cells #[.slice A b.length c, .int .i64 p2, .bool false] 40)).heap.size := (by simp [World.setCell] <;> omega); have hq6 := (hg6.block WB (by simp [World.setCell] <;> omega) (by simp only [ne_eq, Option.some.injEq]; omega)).trans hqx; obtain ⟨k0, k1, k2, k3, k4, k5⟩ := cells3 hq6; have HQ6 := Lib.hid hq6; have HR6 := Lib.hid hR6; have HB6 := Lib.hid (hbx.trans ((RdrX.keeps hR6.le hsx hg6).mono hwb)); clear hq6 hqx hbx hbs hsx hR6 hg6))
                  have HK2 := Lib.hid (cells3 HQ6.out).2.2.1
                  have HWW := Lib.hid (World.block_lt_of_cell? _ _ (cells3 HQ6.out).1)
                  refine free_one (R := R) 1 (fun w' => w' = (w6).drew) (n := 23) (T := _) [0, 1, 0, 7, 15, 31, 63, 31, 159, 511, 1023, 2047, 4095, 8191, 4095, 20479, 53247, 131071, 262143, 524287, 1048575, 2097151, 4194303] [(0, 93), (1, 94), (2, 95), (3, 96), (4, 97), (5, 98), (6, 99), (7, 100), (8, 101), (9, 102), (10, 103), (11, 104), (12, 105), (13, 106), (14, 107), (15, 108), (16, 109), (17, 110), (18, 111), (19, 112), (20, 113), (21, 114), (22, 115)] (fun i v w => match i with | 0 => v = .pointer (some ⟨R, 0, none⟩) | 1 => v = .int .i64 ((b.length : Int) - p2) | 2 => v = .int .i64 ((b.length : Int) - p2) | 3 => v = .bool false | 4 => v = .bool false | 5 => v = .pointer (some ⟨R, 0, none⟩) | 6 => v = .bool false | 7 => v = .pointer (some ⟨WB, 2, none⟩) | 8 => v = .bool false | 9 => v = .bool false | 10 => v = .bool false | 11 => v = .bool false | 12 => v = .pointer (some ⟨R, 0, none⟩) | 13 => v = .bool ((b.length : Int) - p2 == 0) | 14 => v = .pointer (some ⟨WB, 2, none⟩) | 15 => v = .bool false | 16 => v = .bool true | 17 => v = .bool true | 18 => v = .int .i64 ((b.length : Int) - p2) | 19 => v = .bool ((b.length : Int) - p2 == 0) | 20 => v = .bool ((b.length : Int) - p2 == 0) | 21 => v = .bool false | 22 => v = .bool false | _ => True) (by kernel_rfl) rfl rfl (by kernel_rfl) (by kernel_rfl) (by kernel_rfl) rfl (by kernel_rfl) ⟨94, by simp⟩ ?_ ?_
                  · intro e he a w hB hel hdep
                    simp only [List.mem_cons, List.not_mem_nil, or_false] at he
                    rcases he with rfl | rfl | rfl | rfl | rfl | rfl | rfl | rfl | rfl | rfl | rfl | rfl | rfl | rfl | rfl | rfl | rfl | rfl | rfl | rfl | rfl | rfl | rfl
                    · have h6 : a.tmps[6]? = some (.pointer (some ⟨R, 0, none⟩)) := (hel 6 (by decide)).trans rfl
                      have e6 : a.eval (.tmp 6) = .pointer (some ⟨R, 0, none⟩) := eval_of h6
                      exact ⟨_, rfl, rfl, Ok.move (wanted_none rfl) (.inl rfl) e6 (fun _ _ => rfl)⟩
                    · obtain ⟨v93, h93, q93⟩ := hdep (0, 93) (by decide) (by decide)
                      obtain rfl : v93 = .pointer (some ⟨R, 0, none⟩) := q93.now
                      replace h93 : a.tmps[93]? = some (.pointer (some ⟨R, 0, none⟩)) := h93
                      have e93 : a.eval (.tmp 93) = .pointer (some ⟨R, 0, none⟩) := eval_of h93
                      obtain rfl : w = (w6).drew := hB.2.2.elim id id
                      exact ⟨_, rfl, rfl, Ok.call (T := fun w w' => Tq R w w' ∧ w' = (w6).drew) Try.func15 (by kernel_rfl) rfl #[.pointer (some ⟨R, 0, none⟩)] (wanted_none rfl) rfl (by simp [e93]) ((left_o base R (b.drop p2) false _ ((b.length : Int) - p2) (by have := HTL.out; rw [List.length_drop]; omega) (HR6.out.below ((Below.refl _ _).drew))).mono (by rintro e w' ⟨rfl, rfl⟩; exact ⟨_, rfl, fun _ _ => rfl, Tq.refl _ _, rfl⟩))⟩
                    · have h15 : a.tmps[15]? = some (.int .i64 ((b.length : Int) - p2)) := (hel 15 (by decide)).trans rfl
                      have e15 : a.eval (.tmp 15) = .int .i64 ((b.length : Int) - p2) := eval_of h15
                      exact ⟨_, rfl, rfl, Ok.move (wanted_none rfl) (.inl rfl) e15 (fun _ _ => rfl)⟩
                    · obtain ⟨v94, h94, q94⟩ := hdep (1, 94) (by decide) (by decide)
                      obtain rfl : v94 = .int .i64 ((b.length : Int) - p2) := q94.now
                      replace h94 : a.tmps[94]? = some (.int .i64 ((b.length : Int) - p2)) := h94
                      have e94 : a.eval (.tmp 94) = .int .i64 ((b.length : Int) - p2) := eval_of h94
                      obtain ⟨v95, h95, q95⟩ := hdep (2, 95) (by decide) (by decide)
                      obtain rfl : v95 = .int .i64 ((b.length : Int) - p2) := q95.now
                      replace h95 : a.tmps[95]? = some (.int .i64 ((b.length : Int) - p2)) := h95
                      have e95 : a.eval (.tmp 95) = .int .i64 ((b.length : Int) - p2) := eval_of h95
                      exact ⟨_, rfl, rfl, Ok.pure (.bool false) (wanted_none rfl) (by simp only [execOp]; go_simp) (fun _ _ => rfl)⟩
                    · obtain ⟨v96, h96, q96⟩ := hdep (3, 96) (by decide) (by decide)
                      obtain rfl : v96 = .bool false := q96.now
                      replace h96 : a.tmps[96]? = some (.bool false) := h96
                      have e96 : a.eval (.tmp 96) = .bool false := eval_of h96
                      exact ⟨_, rfl, rfl, Ok.move (wanted_none rfl) (.inl rfl) (eval_of h96) q96⟩
                    · obtain ⟨v97, h97, q97⟩ := hdep (4, 97) (by decide) (by decide)
                      obtain rfl : v97 = .bool false := q97.now
                      replace h97 : a.tmps[97]? = some (.bool false) := h97
                      have e97 : a.eval (.tmp 97) = .bool false := eval_of h97
                      have h6 : a.tmps[6]? = some (.pointer (some ⟨R, 0, none⟩)) := (hel 6 (by decide)).trans rfl
                      have e6 : a.eval (.tmp 6) = .pointer (some ⟨R, 0, none⟩) := eval_of h6
                      exact ⟨_, rfl, rfl, Ok.move (wanted_on (t := 97) rfl rfl rfl h97) (.inl rfl) e6 (fun _ _ => rfl)⟩
                    · obtain ⟨v97, h97, q97⟩ := hdep (4, 97) (by decide) (by decide)
                      obtain rfl : v97 = .bool false := q97.now
                      replace h97 : a.tmps[97]? = some (.bool false) := h97
                      have e97 : a.eval (.tmp 97) = .bool false := eval_of h97
                      obtain ⟨v98, h98, q98⟩ := hdep (5, 98) (by decide) (by decide)
                      obtain rfl : v98 = .pointer (some ⟨R, 0, none⟩) := q98.now
                      replace h98 : a.tmps[98]? = some (.pointer (some ⟨R, 0, none⟩)) := h98
                      have e98 : a.eval (.tmp 98) = .pointer (some ⟨R, 0, none⟩) := eval_of h98
                      obtain rfl : w = (w6).drew := hB.2.2.elim id id
                      exact ⟨_, rfl, rfl, Ok.call (T := Same) Try.func14 (by kernel_rfl) rfl #[.pointer (some ⟨R, 0, none⟩)] (wanted_on (t := 97) rfl rfl rfl h97) rfl (by simp [e98]) ((failed_n base R (b.drop p2) false _ (HR6.out.below ((Below.refl _ _).drew))).mono (by rintro e w' ⟨rfl, rfl⟩; exact ⟨_, rfl, fun _ _ => rfl, rfl⟩))⟩
                    · obtain ⟨v97, h97, q97⟩ := hdep (4, 97) (by decide) (by decide)
                      obtain rfl : v97 = .bool false := q97.now
                      replace h97 : a.tmps[97]? = some (.bool false) := h97
                      have e97 : a.eval (.tmp 97) = .bool false := eval_of h97
                      have h8 : a.tmps[8]? = some (.pointer (some ⟨WB, 0, none⟩)) := (hel 8 (by decide)).trans rfl
                      have e8 : a.eval (.tmp 8) = .pointer (some ⟨WB, 0, none⟩) := eval_of h8
                      exact ⟨_, rfl, rfl, Ok.pure (.pointer (some ⟨WB, 2, none⟩)) (wanted_on (t := 97) rfl rfl rfl h97) (by simp only [execOp]; go_simp) (fun _ _ => rfl)⟩
                    · obtain ⟨v97, h97, q97⟩ := hdep (4, 97) (by decide) (by decide)
                      obtain rfl : v97 = .bool false := q97.now
                      replace h97 : a.tmps[97]? = some (.bool false) := h97
                      have e97 : a.eval (.tmp 97) = .bool false := eval_of h97
                      obtain ⟨v100, h100, q100⟩ := hdep (7, 100) (by decide) (by decide)
                      obtain rfl : v100 = .pointer (some ⟨WB, 2, none⟩) := q100.now
                      replace h100 : a.tmps[100]? = some (.pointer (some ⟨WB, 2, none⟩)) := h100
                      have e100 : a.eval (.tmp 100) = .pointer (some ⟨WB, 2, none⟩) := eval_of h100
                      have k := (World.grownBy.cell_far hB.1 ⟨WB, 2, none⟩ HWW.out (by simp only [ne_eq, Option.some.injEq]; omega)).trans HK2.out
                      exact ⟨_, rfl, rfl, Ok.pure (.bool false) (wanted_on (t := 97) rfl rfl rfl h97) (by simp only [execOp]; go_simp) (fun _ _ => rfl)⟩
                    · obtain ⟨v97, h97, q97⟩ := hdep (4, 97) (by decide) (by decide)
                      obtain rfl : v97 = .bool false := q97.now
                      replace h97 : a.tmps[97]? = some (.bool false) := h97
                      have e97 : a.eval (.tmp 97) = .bool false := eval_of h97
                      obtain ⟨v99, h99, q99⟩ := hdep (6, 99) (by decide) (by decide)
                      obtain rfl : v99 = .bool false := q99.now
                      replace h99 : a.tmps[99]? = some (.bool false) := h99
                      have e99 : a.eval (.tmp 99) = .bool false := eval_of h99
                      obtain ⟨v101, h101, q101⟩ := hdep (8, 101) (by decide) (by decide)
                      obtain rfl : v101 = .bool false := q101.now
                      replace h101 : a.tmps[101]? = some (.bool false) := h101
                      have e101 : a.eval (.tmp 101) = .bool false := eval_of h101
                      exact ⟨_, rfl, rfl, Ok.pure (.bool false) (wanted_on (t := 97) rfl rfl rfl h97) (by simp only [execOp]; go_simp) (fun _ _ => rfl)⟩
                    · obtain ⟨v97, h97, q97⟩ := hdep (4, 97) (by decide) (by decide)
                      obtain rfl : v97 = .bool false := q97.now
                      replace h97 : a.tmps[97]? = some (.bool false) := h97
                      have e97 : a.eval (.tmp 97) = .bool false := eval_of h97
                      obtain ⟨v102, h102, q102⟩ := hdep (9, 102) (by decide) (by decide)
                      obtain rfl : v102 = .bool false := q102.now
                      replace h102 : a.tmps[102]? = some (.bool false) := h102
                      have e102 : a.eval (.tmp 102) = .bool false := eval_of h102
                      exact ⟨_, rfl, rfl, Ok.pure (.bool false) (wanted_none rfl) (by simp only [execOp]; go_simp) (fun _ _ => rfl)⟩
                    · obtain ⟨v103, h103, q103⟩ := hdep (10, 103) (by decide) (by decide)
                      obtain rfl : v103 = .bool false := q103.now
                      replace h103 : a.tmps[103]? = some (.bool false) := h103
                      have e103 : a.eval (.tmp 103) = .bool false := eval_of h103
                      exact ⟨_, rfl, rfl, Ok.move (wanted_none rfl) (.inl rfl) (eval_of h103) q103⟩
                    · obtain ⟨v104, h104, q104⟩ := hdep (11, 104) (by decide) (by decide)
                      obtain rfl : v104 = .bool false := q104.now
                      replace h104 : a.tmps[104]? = some (.bool false) := h104
                      have e104 : a.eval (.tmp 104) = .bool false := eval_of h104
                      have h6 : a.tmps[6]? = some (.pointer (some ⟨R, 0, none⟩)) := (hel 6 (by decide)).trans rfl
                      have e6 : a.eval (.tmp 6) = .pointer (some ⟨R, 0, none⟩) := eval_of h6
                      exact ⟨_, rfl, rfl, Ok.move (wanted_on (t := 104) rfl rfl rfl h104) (.inl rfl) e6 (fun _ _ => rfl)⟩
                    · obtain ⟨v104, h104, q104⟩ := hdep (11, 104) (by decide) (by decide)
                      obtain rfl : v104 = .bool false := q104.now
                      replace h104 : a.tmps[104]? = some (.bool false) := h104
                      have e104 : a.eval (.tmp 104) = .bool false := eval_of h104
                      obtain ⟨v105, h105, q105⟩ := hdep (12, 105) (by decide) (by decide)
                      obtain rfl : v105 = .pointer (some ⟨R, 0, none⟩) := q105.now
                      replace h105 : a.tmps[105]? = some (.pointer (some ⟨R, 0, none⟩)) := h105
                      have e105 : a.eval (.tmp 105) = .pointer (some ⟨R, 0, none⟩) := eval_of h105
                      obtain rfl : w = (w6).drew := hB.2.2.elim id id
                      exact ⟨_, rfl, rfl, Ok.call (T := Same) Try.func16 (by kernel_rfl) rfl #[.pointer (some ⟨R, 0, none⟩)] (wanted_on (t := 104) rfl rfl rfl h104) rfl (by simp [e105]) ((ended_n base R (b.drop p2) false _ ((b.length : Int) - p2 == 0) (HR6.out.below ((Below.refl _ _).drew)) (by rw [drop_empty b p2 HTL.out]; rfl)).mono (by rintro e w' ⟨rfl, rfl⟩; exact ⟨_, rfl, fun _ _ => rfl, rfl⟩))⟩
                    · obtain ⟨v104, h104, q104⟩ := hdep (11, 104) (by decide) (by decide)
                      obtain rfl : v104 = .bool false := q104.now
                      replace h104 : a.tmps[104]? = some (.bool false) := h104
                      have e104 : a.eval (.tmp 104) = .bool false := eval_of h104
                      have h8 : a.tmps[8]? = some (.pointer (some ⟨WB, 0, none⟩)) := (hel 8 (by decide)).trans rfl
                      have e8 : a.eval (.tmp 8) = .pointer (some ⟨WB, 0, none⟩) := eval_of h8
                      exact ⟨_, rfl, rfl, Ok.pure (.pointer (some ⟨WB, 2, none⟩)) (wanted_on (t := 104) rfl rfl rfl h104) (by simp only [execOp]; go_simp) (fun _ _ => rfl)⟩
                    · obtain ⟨v104, h104, q104⟩ := hdep (11, 104) (by decide) (by decide)
                      obtain rfl : v104 = .bool false := q104.now
                      replace h104 : a.tmps[104]? = some (.bool false) := h104
                      have e104 : a.eval (.tmp 104) = .bool false := eval_of h104
                      obtain ⟨v107, h107, q107⟩ := hdep (14, 107) (by decide) (by decide)
                      obtain rfl : v107 = .pointer (some ⟨WB, 2, none⟩) := q107.now
                      replace h107 : a.tmps[107]? = some (.pointer (some ⟨WB, 2, none⟩)) := h107
                      have e107 : a.eval (.tmp 107) = .pointer (some ⟨WB, 2, none⟩) := eval_of h107
                      have k := (World.grownBy.cell_far hB.1 ⟨WB, 2, none⟩ HWW.out (by simp only [ne_eq, Option.some.injEq]; omega)).trans HK2.out
                      exact ⟨_, rfl, rfl, Ok.pure (.bool false) (wanted_on (t := 104) rfl rfl rfl h104) (by simp only [execOp]; go_simp) (fun _ _ => rfl)⟩
                    · obtain ⟨v104, h104, q104⟩ := hdep (11, 104) (by decide) (by decide)
                      obtain rfl : v104 = .bool false := q104.now
                      replace h104 : a.tmps[104]? = some (.bool false) := h104
                      have e104 : a.eval (.tmp 104) = .bool false := eval_of h104
                      obtain ⟨v108, h108, q108⟩ := hdep (15, 108) (by decide) (by decide)
                      obtain rfl : v108 = .bool false := q108.now
                      replace h108 : a.tmps[108]? = some (.bool false) := h108
                      have e108 : a.eval (.tmp 108) = .bool false := eval_of h108
                      exact ⟨_, rfl, rfl, Ok.pure (.bool true) (wanted_on (t := 104) rfl rfl rfl h104) (by simp only [execOp]; go_simp) (fun _ _ => rfl)⟩
                    · obtain ⟨v104, h104, q104⟩ := hdep (11, 104) (by decide) (by decide)
                      obtain rfl : v104 = .bool false := q104.now
                      replace h104 : a.tmps[104]? = some (.bool false) := h104
                      have e104 : a.eval (.tmp 104) = .bool false := eval_of h104
                      obtain ⟨v109, h109, q109⟩ := hdep (16, 109) (by decide) (by decide)
                      obtain rfl : v109 = .bool true := q109.now
                      replace h109 : a.tmps[109]? = some (.bool true) := h109
                      have e109 : a.eval (.tmp 109) = .bool true := eval_of h109
                      exact ⟨_, rfl, rfl, Ok.move (wanted_on (t := 104) rfl rfl rfl h104) (.inl rfl) (eval_of h109) q109⟩
                    · obtain ⟨v110, h110, q110⟩ := hdep (17, 110) (by decide) (by decide)
                      obtain rfl : v110 = .bool true := q110.now
                      replace h110 : a.tmps[110]? = some (.bool true) := h110
                      have e110 : a.eval (.tmp 110) = .bool true := eval_of h110
                      have h15 : a.tmps[15]? = some (.int .i64 ((b.length : Int) - p2)) := (hel 15 (by decide)).trans rfl
                      have e15 : a.eval (.tmp 15) = .int .i64 ((b.length : Int) - p2) := eval_of h15
                      exact ⟨_, rfl, rfl, Ok.move (wanted_on (t := 110) rfl rfl rfl h110) (.inl rfl) e15 (fun _ _ => rfl)⟩
                    · obtain ⟨v110, h110, q110⟩ := hdep (17, 110) (by decide) (by decide)
                      obtain rfl : v110 = .bool true := q110.now
                      replace h110 : a.tmps[110]? = some (.bool true) := h110
                      have e110 : a.eval (.tmp 110) = .bool true := eval_of h110
                      obtain ⟨v111, h111, q111⟩ := hdep (18, 111) (by decide) (by decide)
                      obtain rfl : v111 = .int .i64 ((b.length : Int) - p2) := q111.now
                      replace h111 : a.tmps[111]? = some (.int .i64 ((b.length : Int) - p2)) := h111
                      have e111 : a.eval (.tmp 111) = .int .i64 ((b.length : Int) - p2) := eval_of h111
                      exact ⟨_, rfl, rfl, Ok.pure (.bool ((b.length : Int) - p2 == 0)) (wanted_on (t := 110) rfl rfl rfl h110) (by simp only [execOp]; go_simp) (fun _ _ => rfl)⟩
                    · obtain ⟨v104, h104, q104⟩ := hdep (11, 104) (by decide) (by decide)
                      obtain rfl : v104 = .bool false := q104.now
                      replace h104 : a.tmps[104]? = some (.bool false) := h104
                      have e104 : a.eval (.tmp 104) = .bool false := eval_of h104
                      obtain ⟨v110, h110, q110⟩ := hdep (17, 110) (by decide) (by decide)
                      obtain rfl : v110 = .bool true := q110.now
                      replace h110 : a.tmps[110]? = some (.bool true) := h110
                      have e110 : a.eval (.tmp 110) = .bool true := eval_of h110
                      obtain ⟨v112, h112, q112⟩ := hdep (19, 112) (by decide) (by decide)
                      obtain rfl : v112 = .bool ((b.length : Int) - p2 == 0) := q112.now
                      replace h112 : a.tmps[112]? = some (.bool ((b.length : Int) - p2 == 0)) := h112
                      have e112 : a.eval (.tmp 112) = .bool ((b.length : Int) - p2 == 0) := eval_of h112
                      exact ⟨_, rfl, rfl, Ok.pure (.bool ((b.length : Int) - p2 == 0)) (wanted_on (t := 104) rfl rfl rfl h104) (by simp only [execOp]; go_simp) (fun _ _ => rfl)⟩
                    · obtain ⟨v104, h104, q104⟩ := hdep (11, 104) (by decide) (by decide)
                      obtain rfl : v104 = .bool false := q104.now
                      replace h104 : a.tmps[104]? = some (.bool false) := h104
                      have e104 : a.eval (.tmp 104) = .bool false := eval_of h104
                      obtain ⟨v106, h106, q106⟩ := hdep (13, 106) (by decide) (by decide)
                      obtain rfl : v106 = .bool ((b.length : Int) - p2 == 0) := q106.now
                      replace h106 : a.tmps[106]? = some (.bool ((b.length : Int) - p2 == 0)) := h106
                      have e106 : a.eval (.tmp 106) = .bool ((b.length : Int) - p2 == 0) := eval_of h106
                      obtain ⟨v113, h113, q113⟩ := hdep (20, 113) (by decide) (by decide)
                      obtain rfl : v113 = .bool ((b.length : Int) - p2 == 0) := q113.now
                      replace h113 : a.tmps[113]? = some (.bool ((b.length : Int) - p2 == 0)) := h113
                      have e113 : a.eval (.tmp 113) = .bool ((b.length : Int) - p2 == 0) := eval_of h113
                      exact ⟨_, rfl, rfl, Ok.pure (.bool false) (wanted_on (t := 104) rfl rfl rfl h104) (by simp only [execOp]; go_simp) (fun _ _ => rfl)⟩
                    · obtain ⟨v104, h104, q104⟩ := hdep (11, 104) (by decide) (by decide)
                      obtain rfl : v104 = .bool false := q104.now
                      replace h104 : a.tmps[104]? = some (.bool false) := h104
                      have e104 : a.eval (.tmp 104) = .bool false := eval_of h104
                      obtain ⟨v114, h114, q114⟩ := hdep (21, 114) (by decide) (by decide)
                      obtain rfl : v114 = .bool false := q114.now
                      replace h114 : a.tmps[114]? = some (.bool false) := h114
                      have e114 : a.eval (.tmp 114) = .bool false := eval_of h114
                      exact ⟨_, rfl, rfl, Ok.pure (.bool false) (wanted_none rfl) (by simp only [execOp]; go_simp) (fun _ _ => rfl)⟩
                  intro vs wE hBE hS
                  have f93 := hS (0, 93) (by decide)
                  have f94 := hS (1, 94) (by decide)
                  have f95 := hS (2, 95) (by decide)
                  have f96 := hS (3, 96) (by decide)
                  have f97 := hS (4, 97) (by decide)
                  have f98 := hS (5, 98) (by decide)
                  have f99 := hS (6, 99) (by decide)
                  have f100 := hS (7, 100) (by decide)
                  have f101 := hS (8, 101) (by decide)
                  have f102 := hS (9, 102) (by decide)
                  have f103 := hS (10, 103) (by decide)
                  have f104 := hS (11, 104) (by decide)
                  have f105 := hS (12, 105) (by decide)
                  have f106 := hS (13, 106) (by decide)
                  have f107 := hS (14, 107) (by decide)
                  have f108 := hS (15, 108) (by decide)
                  have f109 := hS (16, 109) (by decide)
                  have f110 := hS (17, 110) (by decide)
                  have f111 := hS (18, 111) (by decide)
                  have f112 := hS (19, 112) (by decide)
                  have f113 := hS (20, 113) (by decide)
                  have f114 := hS (21, 114) (by decide)
                  have f115 := hS (22, 115) (by decide)
                  clear hS
                  simp only [tells, List.map_cons, List.map_nil, putSel, if_true]
                  generalize vs 0 = z93 at *
                  generalize vs 1 = z94 at *
                  generalize vs 2 = z95 at *
                  generalize vs 3 = z96 at *
                  generalize vs 4 = z97 at *
                  generalize vs 5 = z98 at *
                  generalize vs 6 = z99 at *
                  generalize vs 7 = z100 at *
                  generalize vs 8 = z101 at *
                  generalize vs 9 = z102 at *
                  generalize vs 10 = z103 at *
                  generalize vs 11 = z104 at *
                  generalize vs 12 = z105 at *
                  generalize vs 13 = z106 at *
                  generalize vs 14 = z107 at *
                  generalize vs 15 = z108 at *
                  generalize vs 16 = z109 at *
                  generalize vs 17 = z110 at *
                  generalize vs 18 = z111 at *
                  generalize vs 19 = z112 at *
                  generalize vs 20 = z113 at *
                  generalize vs 21 = z114 at *
                  generalize vs 22 = z115 at *
                  have f93' : z93 = .pointer (some ⟨R, 0, none⟩) := f93
                  clear f93
                  subst f93'
                  have f94' : z94 = .int .i64 ((b.length : Int) - p2) := f94
                  clear f94
                  subst f94'
                  have f95' : z95 = .int .i64 ((b.length : Int) - p2) := f95
                  clear f95
                  subst f95'
                  have f96' : z96 = .bool false := f96
                  clear f96
                  subst f96'
                  have f97' : z97 = .bool false := f97
                  clear f97
                  subst f97'
                  have f98' : z98 = .pointer (some ⟨R, 0, none⟩) := f98
                  clear f98
                  subst f98'
                  have f99' : z99 = .bool false := f99
                  clear f99
                  subst f99'
                  have f100' : z100 = .pointer (some ⟨WB, 2, none⟩) := f100
                  clear f100
                  subst f100'
                  have f101' : z101 = .bool false := f101
                  clear f101
                  subst f101'
                  have f102' : z102 = .bool false := f102
                  clear f102
                  subst f102'
                  have f103' : z103 = .bool false := f103
                  clear f103
                  subst f103'
                  have f104' : z104 = .bool false := f104
                  clear f104
                  subst f104'
                  have f105' : z105 = .pointer (some ⟨R, 0, none⟩) := f105
                  clear f105
                  subst f105'
                  have f106' : z106 = .bool ((b.length : Int) - p2 == 0) := f106
                  clear f106
                  subst f106'
                  have f107' : z107 = .pointer (some ⟨WB, 2, none⟩) := f107
                  clear f107
                  subst f107'
                  have f108' : z108 = .bool false := f108
                  clear f108
                  subst f108'
                  have f109' : z109 = .bool true := f109
                  clear f109
                  subst f109'
                  have f110' : z110 = .bool true := f110
                  clear f110
                  subst f110'
                  have f111' : z111 = .int .i64 ((b.length : Int) - p2) := f111
                  clear f111
                  subst f111'
                  have f112' : z112 = .bool ((b.length : Int) - p2 == 0) := f112
                  clear f112
                  subst f112'
                  have f113' : z113 = .bool ((b.length : Int) - p2 == 0) := f113
                  clear f113
                  subst f113'
                  have f114' : z114 = .bool false := f114
                  clear f114
                  subst f114'
                  have f115' : z115 = .bool false := f115
                  clear f115
                  subst f115'
                  simp only [Act.put, List.setIfInBounds_toArray, List.set_cons_zero, List.set_cons_succ]
                  obtain ⟨_, hwE⟩ := hBE
                  subst hwE
                  go_wp2
                  go_roundw
                  case rel => exact ⟨k + 1, p2, false, by omega, HTL.out, by go_num, HR6.out.below ((Below.refl _ _).drew), HQ6.out, HB6.out.drew⟩
                  case measure => simp [intOf]; omega
                · go_wp2_with (first
                  | (go_at_call 17; refine (HRC.out _ (HRb.out.below (alloc_below _ _)) hat (by omega)).mono ?_; rintro e w5 ⟨rfl, hb5⟩; have hq5 : w5.heap[WB]? = some (.cells #[.slice A b.length c, .int .i64 at_, .bool f] 40) := (hb5.block WB (by simp <;> omega)).trans ((Below.heap_alloc _ _ _ hWq).trans HQ.out); have hn5 : w5.heap[wr.heap.size]? = some (.cells #[.int .i64 0, .int .i64 N] 42) := (hb5.block wr.heap.size (by simp)).trans (heap_alloc_new wr _); obtain ⟨d0, d1, d2, d3, d4, d5⟩ := cells3 hq5; obtain ⟨m0, m1, m2, m3⟩ := cells2 hn5; have hs5 : wr.heap.size + 1 ≤ w5.heap.size := (by have := hb5.size; simpa using this); have HB5 := Lib.hid (below_step (below_step HBq.out (alloc_below _ _)) hb5); have HR5 := Lib.hid ((HRq.out.below (alloc_below _ _)).below hb5); have HQ5 := Lib.hid hq5; have HN5 := Lib.hid hn5; have hw5 : WB < w5.heap.size := (by omega); have hw5b : wr.heap.size < w5.heap.size := (by omega); have u1 : ¬ (WB = wr.heap.size) := (by omega); have u2 : ¬ (wr.heap.size = WB) := (by omega); have u3 : ¬ (w5.heap.size = WB) := (by omega); have u4 : ¬ (WB = w5.heap.size) := (by omega); clear hq5 hn5 hb5)
                  | (go_at_call 13; refine (num_n base R (b.drop at_) f N _ v (b.drop p2) true ((rdr_three HR5.out hRlt _ _ _).below (alloc_below _ _)) (by have := HDL.out; omega) HV.out HTR.out.symm HF2.out).mono ?_; rintro e w6 ⟨rfl, hR6, hg6⟩; have hqx := (Below.heap_alloc (((w5.setCell ⟨WB, 0, none⟩ (.slice A b.length c)).setCell ⟨WB, 1, none⟩ (.int .i64 p2)).setCell ⟨WB, 2, none⟩ (.bool true)) (.cells #[.slice A b.length c, .int .i64 p2, .bool true] 40) WB (by simp [World.setCell] <;> omega)).trans (heap_three HQ5.out (.slice A b.length c) (.int .i64 p2) (.bool true)); have hbs := ((HB5.out.setCell (p := ⟨WB, 0, none⟩) hwWB (.slice A b.length c)).setCell (p := ⟨WB, 1, none⟩) hwWB (.int .i64 p2)).setCell (p := ⟨WB, 2, none⟩) hwWB (.bool true); have hbx := hbs.alloc hbs.size (.cells #[.slice A b.length c, .int .i64 p2, .bool true] 40); have hsx : base ≤ ((((w5.setCell ⟨WB, 0, none⟩ (.slice A b.length c)).setCell ⟨WB, 1, none⟩ (.int .i64 p2)).setCell ⟨WB, 2, none⟩ (.bool true)).alloc (.cells #[.slice A b.length c, .int .i64 p2, .bool true] 40)).heap.size := (by simp [World.setCell] <;> omega); have hq6 := (hg6.block WB (by simp [World.setCell] <;> omega) (by simp only [ne_eq, Option.some.injEq]; omega)).trans hqx; obtain ⟨k0, k1, k2, k3, k4, k5⟩ := cells3 hq6; have HQ6 := Lib.hid hq6; have HR6 := Lib.hid hR6; have HB6 := Lib.hid (hbx.trans ((RdrX.keeps hR6.le hsx hg6).mono hwb)); clear hq6 hqx hbx hbs hsx hR6 hg6))
                  have HK2 := Lib.hid (cells3 HQ6.out).2.2.1
                  have HWW := Lib.hid (World.block_lt_of_cell? _ _ (cells3 HQ6.out).1)
                  refine free_one (R := R) 1 (fun w' => w' = (w6).drew) (n := 23) (T := _) [0, 1, 0, 7, 15, 31, 63, 31, 159, 511, 1023, 2047, 4095, 8191, 4095, 20479, 53247, 131071, 262143, 524287, 1048575, 2097151, 4194303] [(0, 93), (1, 94), (2, 95), (3, 96), (4, 97), (5, 98), (6, 99), (7, 100), (8, 101), (9, 102), (10, 103), (11, 104), (12, 105), (13, 106), (14, 107), (15, 108), (16, 109), (17, 110), (18, 111), (19, 112), (20, 113), (21, 114), (22, 115)] (fun i v w => match i with | 0 => v = .pointer (some ⟨R, 0, none⟩) | 1 => v = .int .i64 ((b.length : Int) - p2) | 2 => v = .int .i64 ((b.length : Int) - p2) | 3 => v = .bool false | 4 => v = .bool false | 5 => v = .pointer (some ⟨R, 0, none⟩) | 6 => v = .bool true | 7 => v = .pointer (some ⟨WB, 2, none⟩) | 8 => v = .bool true | 9 => v = .bool false | 10 => v = .bool false | 11 => v = .bool false | 12 => v = .pointer (some ⟨R, 0, none⟩) | 13 => v = .bool false | 14 => v = .pointer (some ⟨WB, 2, none⟩) | 15 => v = .bool true | 16 => v = .bool false | 17 => v = .bool false | 18 => True | 19 => True | 20 => v = .bool false | 21 => v = .bool false | 22 => v = .bool false | _ => True) (by kernel_rfl) rfl rfl (by kernel_rfl) (by kernel_rfl) (by kernel_rfl) rfl (by kernel_rfl) ⟨94, by simp⟩ ?_ ?_
                  · intro e he a w hB hel hdep
                    simp only [List.mem_cons, List.not_mem_nil, or_false] at he
                    rcases he with rfl | rfl | rfl | rfl | rfl | rfl | rfl | rfl | rfl | rfl | rfl | rfl | rfl | rfl | rfl | rfl | rfl | rfl | rfl | rfl | rfl | rfl | rfl
                    · have h6 : a.tmps[6]? = some (.pointer (some ⟨R, 0, none⟩)) := (hel 6 (by decide)).trans rfl
                      have e6 : a.eval (.tmp 6) = .pointer (some ⟨R, 0, none⟩) := eval_of h6
                      exact ⟨_, rfl, rfl, Ok.move (wanted_none rfl) (.inl rfl) e6 (fun _ _ => rfl)⟩
                    · obtain ⟨v93, h93, q93⟩ := hdep (0, 93) (by decide) (by decide)
                      obtain rfl : v93 = .pointer (some ⟨R, 0, none⟩) := q93.now
                      replace h93 : a.tmps[93]? = some (.pointer (some ⟨R, 0, none⟩)) := h93
                      have e93 : a.eval (.tmp 93) = .pointer (some ⟨R, 0, none⟩) := eval_of h93
                      obtain rfl : w = (w6).drew := hB.2.2.elim id id
                      exact ⟨_, rfl, rfl, Ok.call (T := fun w w' => Tq R w w' ∧ w' = (w6).drew) Try.func15 (by kernel_rfl) rfl #[.pointer (some ⟨R, 0, none⟩)] (wanted_none rfl) rfl (by simp [e93]) ((left_o base R (b.drop p2) true _ ((b.length : Int) - p2) (by have := HTL.out; rw [List.length_drop]; omega) (HR6.out.below ((Below.refl _ _).drew))).mono (by rintro e w' ⟨rfl, rfl⟩; exact ⟨_, rfl, fun _ _ => rfl, Tq.refl _ _, rfl⟩))⟩
                    · have h15 : a.tmps[15]? = some (.int .i64 ((b.length : Int) - p2)) := (hel 15 (by decide)).trans rfl
                      have e15 : a.eval (.tmp 15) = .int .i64 ((b.length : Int) - p2) := eval_of h15
                      exact ⟨_, rfl, rfl, Ok.move (wanted_none rfl) (.inl rfl) e15 (fun _ _ => rfl)⟩
                    · obtain ⟨v94, h94, q94⟩ := hdep (1, 94) (by decide) (by decide)
                      obtain rfl : v94 = .int .i64 ((b.length : Int) - p2) := q94.now
                      replace h94 : a.tmps[94]? = some (.int .i64 ((b.length : Int) - p2)) := h94
                      have e94 : a.eval (.tmp 94) = .int .i64 ((b.length : Int) - p2) := eval_of h94
                      obtain ⟨v95, h95, q95⟩ := hdep (2, 95) (by decide) (by decide)
                      obtain rfl : v95 = .int .i64 ((b.length : Int) - p2) := q95.now
                      replace h95 : a.tmps[95]? = some (.int .i64 ((b.length : Int) - p2)) := h95
                      have e95 : a.eval (.tmp 95) = .int .i64 ((b.length : Int) - p2) := eval_of h95
                      exact ⟨_, rfl, rfl, Ok.pure (.bool false) (wanted_none rfl) (by simp only [execOp]; go_simp) (fun _ _ => rfl)⟩
                    · obtain ⟨v96, h96, q96⟩ := hdep (3, 96) (by decide) (by decide)
                      obtain rfl : v96 = .bool false := q96.now
                      replace h96 : a.tmps[96]? = some (.bool false) := h96
                      have e96 : a.eval (.tmp 96) = .bool false := eval_of h96
                      exact ⟨_, rfl, rfl, Ok.move (wanted_none rfl) (.inl rfl) (eval_of h96) q96⟩
                    · obtain ⟨v97, h97, q97⟩ := hdep (4, 97) (by decide) (by decide)
                      obtain rfl : v97 = .bool false := q97.now
                      replace h97 : a.tmps[97]? = some (.bool false) := h97
                      have e97 : a.eval (.tmp 97) = .bool false := eval_of h97
                      have h6 : a.tmps[6]? = some (.pointer (some ⟨R, 0, none⟩)) := (hel 6 (by decide)).trans rfl
                      have e6 : a.eval (.tmp 6) = .pointer (some ⟨R, 0, none⟩) := eval_of h6
                      exact ⟨_, rfl, rfl, Ok.move (wanted_on (t := 97) rfl rfl rfl h97) (.inl rfl) e6 (fun _ _ => rfl)⟩
                    · obtain ⟨v97, h97, q97⟩ := hdep (4, 97) (by decide) (by decide)
                      obtain rfl : v97 = .bool false := q97.now
                      replace h97 : a.tmps[97]? = some (.bool false) := h97
                      have e97 : a.eval (.tmp 97) = .bool false := eval_of h97
                      obtain ⟨v98, h98, q98⟩ := hdep (5, 98) (by decide) (by decide)
                      obtain rfl : v98 = .pointer (some ⟨R, 0, none⟩) := q98.now
                      replace h98 : a.tmps[98]? = some (.pointer (some ⟨R, 0, none⟩)) := h98
                      have e98 : a.eval (.tmp 98) = .pointer (some ⟨R, 0, none⟩) := eval_of h98
                      obtain rfl : w = (w6).drew := hB.2.2.elim id id
                      exact ⟨_, rfl, rfl, Ok.call (T := Same) Try.func14 (by kernel_rfl) rfl #[.pointer (some ⟨R, 0, none⟩)] (wanted_on (t := 97) rfl rfl rfl h97) rfl (by simp [e98]) ((failed_n base R (b.drop p2) true _ (HR6.out.below ((Below.refl _ _).drew))).mono (by rintro e w' ⟨rfl, rfl⟩; exact ⟨_, rfl, fun _ _ => rfl, rfl⟩))⟩
                    · obtain ⟨v97, h97, q97⟩ := hdep (4, 97) (by decide) (by decide)
                      obtain rfl : v97 = .bool false := q97.now
                      replace h97 : a.tmps[97]? = some (.bool false) := h97
                      have e97 : a.eval (.tmp 97) = .bool false := eval_of h97
                      have h8 : a.tmps[8]? = some (.pointer (some ⟨WB, 0, none⟩)) := (hel 8 (by decide)).trans rfl
                      have e8 : a.eval (.tmp 8) = .pointer (some ⟨WB, 0, none⟩) := eval_of h8
                      exact ⟨_, rfl, rfl, Ok.pure (.pointer (some ⟨WB, 2, none⟩)) (wanted_on (t := 97) rfl rfl rfl h97) (by simp only [execOp]; go_simp) (fun _ _ => rfl)⟩
                    · obtain ⟨v97, h97, q97⟩ := hdep (4, 97) (by decide) (by decide)
                      obtain rfl : v97 = .bool false := q97.now
                      replace h97 : a.tmps[97]? = some (.bool false) := h97
                      have e97 : a.eval (.tmp 97) = .bool false := eval_of h97
                      obtain ⟨v100, h100, q100⟩ := hdep (7, 100) (by decide) (by decide)
                      obtain rfl : v100 = .pointer (some ⟨WB, 2, none⟩) := q100.now
                      replace h100 : a.tmps[100]? = some (.pointer (some ⟨WB, 2, none⟩)) := h100
                      have e100 : a.eval (.tmp 100) = .pointer (some ⟨WB, 2, none⟩) := eval_of h100
                      have k := (World.grownBy.cell_far hB.1 ⟨WB, 2, none⟩ HWW.out (by simp only [ne_eq, Option.some.injEq]; omega)).trans HK2.out
                      exact ⟨_, rfl, rfl, Ok.pure (.bool true) (wanted_on (t := 97) rfl rfl rfl h97) (by simp only [execOp]; go_simp) (fun _ _ => rfl)⟩
                    · obtain ⟨v97, h97, q97⟩ := hdep (4, 97) (by decide) (by decide)
                      obtain rfl : v97 = .bool false := q97.now
                      replace h97 : a.tmps[97]? = some (.bool false) := h97
                      have e97 : a.eval (.tmp 97) = .bool false := eval_of h97
                      obtain ⟨v99, h99, q99⟩ := hdep (6, 99) (by decide) (by decide)
                      obtain rfl : v99 = .bool true := q99.now
                      replace h99 : a.tmps[99]? = some (.bool true) := h99
                      have e99 : a.eval (.tmp 99) = .bool true := eval_of h99
                      obtain ⟨v101, h101, q101⟩ := hdep (8, 101) (by decide) (by decide)
                      obtain rfl : v101 = .bool true := q101.now
                      replace h101 : a.tmps[101]? = some (.bool true) := h101
                      have e101 : a.eval (.tmp 101) = .bool true := eval_of h101
                      exact ⟨_, rfl, rfl, Ok.pure (.bool false) (wanted_on (t := 97) rfl rfl rfl h97) (by simp only [execOp]; go_simp) (fun _ _ => rfl)⟩
                    · obtain ⟨v97, h97, q97⟩ := hdep (4, 97) (by decide) (by decide)
                      obtain rfl : v97 = .bool false := q97.now
                      replace h97 : a.tmps[97]? = some (.bool false) := h97
                      have e97 : a.eval (.tmp 97) = .bool false := eval_of h97
                      obtain ⟨v102, h102, q102⟩ := hdep (9, 102) (by decide) (by decide)
                      obtain rfl : v102 = .bool false := q102.now
                      replace h102 : a.tmps[102]? = some (.bool false) := h102
                      have e102 : a.eval (.tmp 102) = .bool false := eval_of h102
                      exact ⟨_, rfl, rfl, Ok.pure (.bool false) (wanted_none rfl) (by simp only [execOp]; go_simp) (fun _ _ => rfl)⟩
                    · obtain ⟨v103, h103, q103⟩ := hdep (10, 103) (by decide) (by decide)
                      obtain rfl : v103 = .bool false := q103.now
                      replace h103 : a.tmps[103]? = some (.bool false) := h103
                      have e103 : a.eval (.tmp 103) = .bool false := eval_of h103
                      exact ⟨_, rfl, rfl, Ok.move (wanted_none rfl) (.inl rfl) (eval_of h103) q103⟩
                    · obtain ⟨v104, h104, q104⟩ := hdep (11, 104) (by decide) (by decide)
                      obtain rfl : v104 = .bool false := q104.now
                      replace h104 : a.tmps[104]? = some (.bool false) := h104
                      have e104 : a.eval (.tmp 104) = .bool false := eval_of h104
                      have h6 : a.tmps[6]? = some (.pointer (some ⟨R, 0, none⟩)) := (hel 6 (by decide)).trans rfl
                      have e6 : a.eval (.tmp 6) = .pointer (some ⟨R, 0, none⟩) := eval_of h6
                      exact ⟨_, rfl, rfl, Ok.move (wanted_on (t := 104) rfl rfl rfl h104) (.inl rfl) e6 (fun _ _ => rfl)⟩
                    · obtain ⟨v104, h104, q104⟩ := hdep (11, 104) (by decide) (by decide)
                      obtain rfl : v104 = .bool false := q104.now
                      replace h104 : a.tmps[104]? = some (.bool false) := h104
                      have e104 : a.eval (.tmp 104) = .bool false := eval_of h104
                      obtain ⟨v105, h105, q105⟩ := hdep (12, 105) (by decide) (by decide)
                      obtain rfl : v105 = .pointer (some ⟨R, 0, none⟩) := q105.now
                      replace h105 : a.tmps[105]? = some (.pointer (some ⟨R, 0, none⟩)) := h105
                      have e105 : a.eval (.tmp 105) = .pointer (some ⟨R, 0, none⟩) := eval_of h105
                      obtain rfl : w = (w6).drew := hB.2.2.elim id id
                      exact ⟨_, rfl, rfl, Ok.call (T := Same) Try.func16 (by kernel_rfl) rfl #[.pointer (some ⟨R, 0, none⟩)] (wanted_on (t := 104) rfl rfl rfl h104) rfl (by simp [e105]) ((ended_n base R (b.drop p2) true _ false (HR6.out.below ((Below.refl _ _).drew)) (rfl)).mono (by rintro e w' ⟨rfl, rfl⟩; exact ⟨_, rfl, fun _ _ => rfl, rfl⟩))⟩
                    · obtain ⟨v104, h104, q104⟩ := hdep (11, 104) (by decide) (by decide)
                      obtain rfl : v104 = .bool false := q104.now
                      replace h104 : a.tmps[104]? = some (.bool false) := h104
                      have e104 : a.eval (.tmp 104) = .bool false := eval_of h104
                      have h8 : a.tmps[8]? = some (.pointer (some ⟨WB, 0, none⟩)) := (hel 8 (by decide)).trans rfl
                      have e8 : a.eval (.tmp 8) = .pointer (some ⟨WB, 0, none⟩) := eval_of h8
                      exact ⟨_, rfl, rfl, Ok.pure (.pointer (some ⟨WB, 2, none⟩)) (wanted_on (t := 104) rfl rfl rfl h104) (by simp only [execOp]; go_simp) (fun _ _ => rfl)⟩
                    · obtain ⟨v104, h104, q104⟩ := hdep (11, 104) (by decide) (by decide)
                      obtain rfl : v104 = .bool false := q104.now
                      replace h104 : a.tmps[104]? = some (.bool false) := h104
                      have e104 : a.eval (.tmp 104) = .bool false := eval_of h104
                      obtain ⟨v107, h107, q107⟩ := hdep (14, 107) (by decide) (by decide)
                      obtain rfl : v107 = .pointer (some ⟨WB, 2, none⟩) := q107.now
                      replace h107 : a.tmps[107]? = some (.pointer (some ⟨WB, 2, none⟩)) := h107
                      have e107 : a.eval (.tmp 107) = .pointer (some ⟨WB, 2, none⟩) := eval_of h107
                      have k := (World.grownBy.cell_far hB.1 ⟨WB, 2, none⟩ HWW.out (by simp only [ne_eq, Option.some.injEq]; omega)).trans HK2.out
                      exact ⟨_, rfl, rfl, Ok.pure (.bool true) (wanted_on (t := 104) rfl rfl rfl h104) (by simp only [execOp]; go_simp) (fun _ _ => rfl)⟩
                    · obtain ⟨v104, h104, q104⟩ := hdep (11, 104) (by decide) (by decide)
                      obtain rfl : v104 = .bool false := q104.now
                      replace h104 : a.tmps[104]? = some (.bool false) := h104
                      have e104 : a.eval (.tmp 104) = .bool false := eval_of h104
                      obtain ⟨v108, h108, q108⟩ := hdep (15, 108) (by decide) (by decide)
                      obtain rfl : v108 = .bool true := q108.now
                      replace h108 : a.tmps[108]? = some (.bool true) := h108
                      have e108 : a.eval (.tmp 108) = .bool true := eval_of h108
                      exact ⟨_, rfl, rfl, Ok.pure (.bool false) (wanted_on (t := 104) rfl rfl rfl h104) (by simp only [execOp]; go_simp) (fun _ _ => rfl)⟩
                    · obtain ⟨v104, h104, q104⟩ := hdep (11, 104) (by decide) (by decide)
                      obtain rfl : v104 = .bool false := q104.now
                      replace h104 : a.tmps[104]? = some (.bool false) := h104
                      have e104 : a.eval (.tmp 104) = .bool false := eval_of h104
                      obtain ⟨v109, h109, q109⟩ := hdep (16, 109) (by decide) (by decide)
                      obtain rfl : v109 = .bool false := q109.now
                      replace h109 : a.tmps[109]? = some (.bool false) := h109
                      have e109 : a.eval (.tmp 109) = .bool false := eval_of h109
                      exact ⟨_, rfl, rfl, Ok.move (wanted_on (t := 104) rfl rfl rfl h104) (.inl rfl) (eval_of h109) q109⟩
                    · obtain ⟨v110, h110, q110⟩ := hdep (17, 110) (by decide) (by decide)
                      obtain rfl : v110 = .bool false := q110.now
                      replace h110 : a.tmps[110]? = some (.bool false) := h110
                      have e110 : a.eval (.tmp 110) = .bool false := eval_of h110
                      exact ⟨_, rfl, rfl, Ok.off (wanted_off (t := 110) rfl rfl rfl h110) (fun _ _ => trivial)⟩
                    · obtain ⟨v110, h110, q110⟩ := hdep (17, 110) (by decide) (by decide)
                      obtain rfl : v110 = .bool false := q110.now
                      replace h110 : a.tmps[110]? = some (.bool false) := h110
                      have e110 : a.eval (.tmp 110) = .bool false := eval_of h110
                      exact ⟨_, rfl, rfl, Ok.off (wanted_off (t := 110) rfl rfl rfl h110) (fun _ _ => trivial)⟩
                    · obtain ⟨v104, h104, q104⟩ := hdep (11, 104) (by decide) (by decide)
                      obtain rfl : v104 = .bool false := q104.now
                      replace h104 : a.tmps[104]? = some (.bool false) := h104
                      have e104 : a.eval (.tmp 104) = .bool false := eval_of h104
                      obtain ⟨v110, h110, q110⟩ := hdep (17, 110) (by decide) (by decide)
                      obtain rfl : v110 = .bool false := q110.now
                      replace h110 : a.tmps[110]? = some (.bool false) := h110
                      have e110 : a.eval (.tmp 110) = .bool false := eval_of h110
                      obtain ⟨v112, h112, q112⟩ := hdep (19, 112) (by decide) (by decide)
                      have s112 := q112.now
                      exact ⟨_, rfl, rfl, Ok.pure (.bool false) (wanted_on (t := 104) rfl rfl rfl h104) (by simp only [execOp]; go_simp) (fun _ _ => rfl)⟩
                    · obtain ⟨v104, h104, q104⟩ := hdep (11, 104) (by decide) (by decide)
                      obtain rfl : v104 = .bool false := q104.now
                      replace h104 : a.tmps[104]? = some (.bool false) := h104
                      have e104 : a.eval (.tmp 104) = .bool false := eval_of h104
                      obtain ⟨v106, h106, q106⟩ := hdep (13, 106) (by decide) (by decide)
                      obtain rfl : v106 = .bool false := q106.now
                      replace h106 : a.tmps[106]? = some (.bool false) := h106
                      have e106 : a.eval (.tmp 106) = .bool false := eval_of h106
                      obtain ⟨v113, h113, q113⟩ := hdep (20, 113) (by decide) (by decide)
                      obtain rfl : v113 = .bool false := q113.now
                      replace h113 : a.tmps[113]? = some (.bool false) := h113
                      have e113 : a.eval (.tmp 113) = .bool false := eval_of h113
                      exact ⟨_, rfl, rfl, Ok.pure (.bool false) (wanted_on (t := 104) rfl rfl rfl h104) (by simp only [execOp]; go_simp) (fun _ _ => rfl)⟩
                    · obtain ⟨v104, h104, q104⟩ := hdep (11, 104) (by decide) (by decide)
                      obtain rfl : v104 = .bool false := q104.now
                      replace h104 : a.tmps[104]? = some (.bool false) := h104
                      have e104 : a.eval (.tmp 104) = .bool false := eval_of h104
                      obtain ⟨v114, h114, q114⟩ := hdep (21, 114) (by decide) (by decide)
                      obtain rfl : v114 = .bool false := q114.now
                      replace h114 : a.tmps[114]? = some (.bool false) := h114
                      have e114 : a.eval (.tmp 114) = .bool false := eval_of h114
                      exact ⟨_, rfl, rfl, Ok.pure (.bool false) (wanted_none rfl) (by simp only [execOp]; go_simp) (fun _ _ => rfl)⟩
                  intro vs wE hBE hS
                  have f93 := hS (0, 93) (by decide)
                  have f94 := hS (1, 94) (by decide)
                  have f95 := hS (2, 95) (by decide)
                  have f96 := hS (3, 96) (by decide)
                  have f97 := hS (4, 97) (by decide)
                  have f98 := hS (5, 98) (by decide)
                  have f99 := hS (6, 99) (by decide)
                  have f100 := hS (7, 100) (by decide)
                  have f101 := hS (8, 101) (by decide)
                  have f102 := hS (9, 102) (by decide)
                  have f103 := hS (10, 103) (by decide)
                  have f104 := hS (11, 104) (by decide)
                  have f105 := hS (12, 105) (by decide)
                  have f106 := hS (13, 106) (by decide)
                  have f107 := hS (14, 107) (by decide)
                  have f108 := hS (15, 108) (by decide)
                  have f109 := hS (16, 109) (by decide)
                  have f110 := hS (17, 110) (by decide)
                  have f111 := hS (18, 111) (by decide)
                  have f112 := hS (19, 112) (by decide)
                  have f113 := hS (20, 113) (by decide)
                  have f114 := hS (21, 114) (by decide)
                  have f115 := hS (22, 115) (by decide)
                  clear hS
                  simp only [tells, List.map_cons, List.map_nil, putSel, if_true]
                  generalize vs 0 = z93 at *
                  generalize vs 1 = z94 at *
                  generalize vs 2 = z95 at *
                  generalize vs 3 = z96 at *
                  generalize vs 4 = z97 at *
                  generalize vs 5 = z98 at *
                  generalize vs 6 = z99 at *
                  generalize vs 7 = z100 at *
                  generalize vs 8 = z101 at *
                  generalize vs 9 = z102 at *
                  generalize vs 10 = z103 at *
                  generalize vs 11 = z104 at *
                  generalize vs 12 = z105 at *
                  generalize vs 13 = z106 at *
                  generalize vs 14 = z107 at *
                  generalize vs 15 = z108 at *
                  generalize vs 16 = z109 at *
                  generalize vs 17 = z110 at *
                  generalize vs 18 = z111 at *
                  generalize vs 19 = z112 at *
                  generalize vs 20 = z113 at *
                  generalize vs 21 = z114 at *
                  generalize vs 22 = z115 at *
                  have f93' : z93 = .pointer (some ⟨R, 0, none⟩) := f93
                  clear f93
                  subst f93'
                  have f94' : z94 = .int .i64 ((b.length : Int) - p2) := f94
                  clear f94
                  subst f94'
                  have f95' : z95 = .int .i64 ((b.length : Int) - p2) := f95
                  clear f95
                  subst f95'
                  have f96' : z96 = .bool false := f96
                  clear f96
                  subst f96'
                  have f97' : z97 = .bool false := f97
                  clear f97
                  subst f97'
                  have f98' : z98 = .pointer (some ⟨R, 0, none⟩) := f98
                  clear f98
                  subst f98'
                  have f99' : z99 = .bool true := f99
                  clear f99
                  subst f99'
                  have f100' : z100 = .pointer (some ⟨WB, 2, none⟩) := f100
                  clear f100
                  subst f100'
                  have f101' : z101 = .bool true := f101
                  clear f101
                  subst f101'
                  have f102' : z102 = .bool false := f102
                  clear f102
                  subst f102'
                  have f103' : z103 = .bool false := f103
                  clear f103
                  subst f103'
                  have f104' : z104 = .bool false := f104
                  clear f104
                  subst f104'
                  have f105' : z105 = .pointer (some ⟨R, 0, none⟩) := f105
                  clear f105
                  subst f105'
                  have f106' : z106 = .bool false := f106
                  clear f106
                  subst f106'
                  have f107' : z107 = .pointer (some ⟨WB, 2, none⟩) := f107
                  clear f107
                  subst f107'
                  have f108' : z108 = .bool true := f108
                  clear f108
                  subst f108'
                  have f109' : z109 = .bool false := f109
                  clear f109
                  subst f109'
                  have f110' : z110 = .bool false := f110
                  clear f110
                  subst f110'
                  have f113' : z113 = .bool false := f113
                  clear f113
                  subst f113'
                  have f114' : z114 = .bool false := f114
                  clear f114
                  subst f114'
                  have f115' : z115 = .bool false := f115
                  clear f115
                  subst f115'
                  simp only [Act.put, List.setIfInBounds_toArray, List.set_cons_zero, List.set_cons_succ]
                  obtain ⟨_, hwE⟩ := hBE
                  subst hwE
                  go_wp2
                  go_roundw
                  case rel => exact ⟨k + 1, p2, true, by omega, HTL.out, by go_num, HR6.out.below ((Below.refl _ _).drew), HQ6.out, HB6.out.drew⟩
                  case measure => simp [intOf]; omega
              · by_cases h1 : K = 1
                · subst h1
                  have HTL := Lib.hid (takeAt_le b at_ f N hat)
                  have HTR := Lib.hid (takeAt_rest b at_ f N)
                  have HRC := Lib.hid (rtake_any A c b at_ f N)
                  generalize hp2 : takeAt b at_ f N = p2 at HRC HTL HTR
                  generalize hf2 : takeBad (b.drop at_) f N = f2 at HRC
                  generalize hos : takeOut (b.drop at_) f N = os at HRC
                  have HF2 := Lib.hid hf2
                  have HOS := Lib.hid hos
                  clear hp2 hf2 hos
                  unfold rdrV at HRC
                  have hp2 : p2 ≤ b.length := HTL.out
                  cases f2
                  · go_wp2_with (go_at_call 18; refine (HRC.out _ (HRb.out.below (alloc_below _ _)) hat (by omega)).mono ?_; rintro e w5 ⟨A5, c5, rfl, hs5x, hn5x, hb5⟩; have hq5 : w5.heap[WB]? = some (.cells #[.slice A b.length c, .int .i64 at_, .bool f] 40) := (hb5.block WB (by simp <;> omega)).trans ((Below.heap_alloc _ _ _ hWq).trans HQ.out); have hn5 : w5.heap[wr.heap.size]? = some (.cells #[.int .i64 1, .int .i64 N] 42) := (hb5.block wr.heap.size (by simp)).trans (heap_alloc_new wr _); obtain ⟨d0, d1, d2, d3, d4, d5⟩ := cells3 hq5; obtain ⟨m0, m1, m2, m3⟩ := cells2 hn5; have hs5 : wr.heap.size + 1 ≤ w5.heap.size := (by have := hb5.size; simpa using this); have HB5 := Lib.hid (below_step (below_step HBq.out (alloc_below _ _)) hb5); have HR5 := Lib.hid ((HRq.out.below (alloc_below _ _)).below hb5); have HQ5 := Lib.hid hq5; have HN5 := Lib.hid hn5; have hw5 : WB < w5.heap.size := (by omega); have hw5b : wr.heap.size < w5.heap.size := (by omega); have u1 : ¬ (WB = wr.heap.size) := (by omega); have u2 : ¬ (wr.heap.size = WB) := (by omega); have u3 : ¬ (w5.heap.size = WB) := (by omega); have u4 : ¬ (WB = w5.heap.size) := (by omega); clear hq5 hn5 hb5; have HS5 := Lib.hid hs5x; have HZ5 := Lib.hid (show ∀ a, A5 = some a → wr.heap.size + 1 ≤ a.block from fun a e => by have := hn5x a e; simpa using this); clear hs5x hn5x)
                    have HX5 := Lib.hid ((sl_three HS5.out (s := WB) (fun a e => by have := HZ5.out a e; omega) (.slice A b.length c) (.int .i64 p2) (.bool false)).below (alloc_below _ (.cells #[.slice A b.length c, .int .i64 p2, .bool false] 40)))
                    have HX5n := Lib.hid (show ∀ a, A5 = some a → a.block ≠ R from fun a e => by have := HZ5.out a e; omega)
                    have HRQ := Lib.hid ((rdr_three HR5.out hRlt (.slice A b.length c) (.int .i64 p2) (.bool false)).below (alloc_below _ (.cells #[.slice A b.length c, .int .i64 p2, .bool false] 40)))
                    have HBA := Lib.hid (show wr.heap.size < ((((w5.setCell ⟨WB, 0, none⟩ (.slice A b.length c)).setCell ⟨WB, 1, none⟩ (.int .i64 p2)).setCell ⟨WB, 2, none⟩ (.bool false)).alloc (.cells #[.slice A b.length c, .int .i64 p2, .bool false] 40)).heap.size ∧ wr.heap.size ≠ R from ⟨by simp [World.setCell] <;> omega, by omega⟩)
                    have HN1 := Lib.hid (show ((((w5.setCell ⟨WB, 0, none⟩ (.slice A b.length c)).setCell ⟨WB, 1, none⟩ (.int .i64 p2)).setCell ⟨WB, 2, none⟩ (.bool false)).alloc (.cells #[.slice A b.length c, .int .i64 p2, .bool false] 40)).cell? ⟨wr.heap.size, 1, none⟩ = some (.int .i64 N) by
                      rw [Below.cell (alloc_below _ _) (p := ⟨wr.heap.size, 1, none⟩) (by show wr.heap.size < _; simp [World.setCell] <;> omega), World.cell?_setCell_far _ _ _ _ (by show WB ≠ _; omega), World.cell?_setCell_far _ _ _ _ (by show WB ≠ _; omega), World.cell?_setCell_far _ _ _ _ (by show WB ≠ _; omega)]
                      exact (cells2 HN5.out).2.1)
                    have HLB := Lib.hid (show (b.drop at_).length ≤ 140737488355000 by have := HDL.out; omega)
                    clear d0 d1 d2 d3 d4 d5 m0 m1 m2 m3
                    refine free_one (R := R) 3 (fun w' => RdrX w' base R (takeRest (b.drop at_) f N) (takeBad (b.drop at_) f N)) (n := 8) (T := _) [0, 0, 2, 7, 15, 0, 32, 127] [(0, 79), (1, 80), (2, 81), (3, 82), (4, 83), (5, 84), (6, 85), (7, 86)] (fun i v w => match i with | 0 => v = .pointer (some ⟨R, 0, none⟩) | 1 => v = .pointer (some ⟨wr.heap.size, 1, none⟩) | 2 => v = .int .i64 N | 3 => ∃ A' c', v = .slice A' os.length c' ∧ Sl w A' c' os ∧ (0 < os.length → ∀ a, A' = some a → a.block ≠ R) | 4 => v = .string (strB os) | 5 => v = .slice A5 os.length c5 | 6 => v = .string (strB os) | 7 => v = .bool false | _ => True) (by kernel_rfl) rfl rfl (by kernel_rfl) (by kernel_rfl) (by kernel_rfl) rfl (by kernel_rfl) ⟨82, by simp⟩ ?_ ?_
                    · intro e he a w hB hel hdep
                      simp only [List.mem_cons, List.not_mem_nil, or_false] at he
                      rcases he with rfl | rfl | rfl | rfl | rfl | rfl | rfl | rfl
                      · have h6 : a.tmps[6]? = some (.pointer (some ⟨R, 0, none⟩)) := (hel 6 (by decide)).trans rfl
                        have e6 : a.eval (.tmp 6) = .pointer (some ⟨R, 0, none⟩) := eval_of h6
                        exact ⟨_, rfl, rfl, Ok.pure (.pointer (some ⟨R, 0, none⟩)) (wanted_none rfl) (by simp only [execOp]; go_simp) (fun _ _ => rfl)⟩
                      · have h10 : a.tmps[10]? = some (.pointer (some ⟨wr.heap.size, 0, none⟩)) := (hel 10 (by decide)).trans rfl
                        have e10 : a.eval (.tmp 10) = .pointer (some ⟨wr.heap.size, 0, none⟩) := eval_of h10
                        exact ⟨_, rfl, rfl, Ok.pure (.pointer (some ⟨wr.heap.size, 1, none⟩)) (wanted_none rfl) (by simp only [execOp]; go_simp) (fun _ _ => rfl)⟩
                      · obtain ⟨v80, h80, q80⟩ := hdep (1, 80) (by decide) (by decide)
                        obtain rfl : v80 = .pointer (some ⟨wr.heap.size, 1, none⟩) := q80.now
                        replace h80 : a.tmps[80]? = some (.pointer (some ⟨wr.heap.size, 1, none⟩)) := h80
                        have e80 : a.eval (.tmp 80) = .pointer (some ⟨wr.heap.size, 1, none⟩) := eval_of h80
                        have k := (World.grownBy.cell_far hB.1 ⟨wr.heap.size, 1, none⟩ HBA.out.1 (by simp only [ne_eq, Option.some.injEq]; exact HBA.out.2)).trans HN1.out
                        exact ⟨_, rfl, rfl, Ok.pure (.int .i64 N) (wanted_none rfl) (by simp only [execOp]; go_simp) (fun _ _ => rfl)⟩
                      · obtain ⟨v79, h79, q79⟩ := hdep (0, 79) (by decide) (by decide)
                        obtain rfl : v79 = .pointer (some ⟨R, 0, none⟩) := q79.now
                        replace h79 : a.tmps[79]? = some (.pointer (some ⟨R, 0, none⟩)) := h79
                        have e79 : a.eval (.tmp 79) = .pointer (some ⟨R, 0, none⟩) := eval_of h79
                        obtain ⟨v81, h81, q81⟩ := hdep (2, 81) (by decide) (by decide)
                        obtain rfl : v81 = .int .i64 N := q81.now
                        replace h81 : a.tmps[81]? = some (.int .i64 N) := h81
                        have e81 : a.eval (.tmp 81) = .int .i64 N := eval_of h81
                        obtain rfl := hB.2.1 rfl
                        exact ⟨_, rfl, rfl, Ok.call (T := fun w w' => Tq R w w' ∧ RdrX w' base R (takeRest (b.drop at_) f N) (takeBad (b.drop at_) f N)) Try.func19 (by kernel_rfl) rfl #[.pointer (some ⟨R, 0, none⟩), .int .i64 N] (wanted_none rfl) rfl (by simp [e79, e81]) ((take_o base R (b.drop at_) f N _ os HOS.out (HRQ.out.below ((Below.refl _ _).drew)) HLB.out).mono (by rintro e w' ⟨A', c', rfl, hs, hne, hR, hg⟩; exact ⟨_, rfl, fun w2 hb2 => ⟨_, _, rfl, sl_quiet hs hne hb2, hne⟩, hg, hR⟩))⟩
                      · obtain ⟨v82, h82, q82⟩ := hdep (3, 82) (by decide) (by decide)
                        have s82 := q82.now
                        obtain ⟨A', c', rfl, hs, _⟩ := s82
                        have e82 := eval_of h82
                        have k := hs.rd.conv _ c' rfl
                        exact ⟨_, rfl, rfl, Ok.pure (.string (strB os)) (wanted_none rfl) (by simp only [execOp]; go_simp) (fun _ _ => rfl)⟩
                      · have h14 : a.tmps[14]? = some (.slice A5 os.length c5) := (hel 14 (by decide)).trans rfl
                        have e14 : a.eval (.tmp 14) = .slice A5 os.length c5 := eval_of h14
                        exact ⟨_, rfl, rfl, Ok.move (wanted_none rfl) (.inl rfl) e14 (fun _ _ => rfl)⟩
                      · obtain ⟨v84, h84, q84⟩ := hdep (5, 84) (by decide) (by decide)
                        obtain rfl : v84 = .slice A5 os.length c5 := q84.now
                        replace h84 : a.tmps[84]? = some (.slice A5 os.length c5) := h84
                        have e84 : a.eval (.tmp 84) = .slice A5 os.length c5 := eval_of h84
                        have k := (sl_quiet HX5.out (fun _ => HX5n.out) hB.1).rd.conv _ c5 rfl
                        exact ⟨_, rfl, rfl, Ok.pure (.string (strB os)) (wanted_none rfl) (by simp only [execOp]; go_simp) (fun _ _ => rfl)⟩
                      · obtain ⟨v83, h83, q83⟩ := hdep (4, 83) (by decide) (by decide)
                        obtain rfl : v83 = .string (strB os) := q83.now
                        replace h83 : a.tmps[83]? = some (.string (strB os)) := h83
                        have e83 : a.eval (.tmp 83) = .string (strB os) := eval_of h83
                        obtain ⟨v85, h85, q85⟩ := hdep (6, 85) (by decide) (by decide)
                        obtain rfl : v85 = .string (strB os) := q85.now
                        replace h85 : a.tmps[85]? = some (.string (strB os)) := h85
                        have e85 : a.eval (.tmp 85) = .string (strB os) := eval_of h85
                        exact ⟨_, rfl, rfl, Ok.pure (.bool false) (wanted_none rfl) (by simp only [execOp]; go_simp) (fun _ _ => rfl)⟩
                    intro vs wE hBE hS
                    have f79 := hS (0, 79) (by decide)
                    have f80 := hS (1, 80) (by decide)
                    have f81 := hS (2, 81) (by decide)
                    have f82 := hS (3, 82) (by decide)
                    have f83 := hS (4, 83) (by decide)
                    have f84 := hS (5, 84) (by decide)
                    have f85 := hS (6, 85) (by decide)
                    have f86 := hS (7, 86) (by decide)
                    clear hS
                    simp only [tells, List.map_cons, List.map_nil, putSel, if_true]
                    generalize vs 0 = z79 at *
                    generalize vs 1 = z80 at *
                    generalize vs 2 = z81 at *
                    generalize vs 3 = z82 at *
                    generalize vs 4 = z83 at *
                    generalize vs 5 = z84 at *
                    generalize vs 6 = z85 at *
                    generalize vs 7 = z86 at *
                    have f79' : z79 = .pointer (some ⟨R, 0, none⟩) := f79
                    clear f79
                    subst f79'
                    have f80' : z80 = .pointer (some ⟨wr.heap.size, 1, none⟩) := f80
                    clear f80
                    subst f80'
                    have f81' : z81 = .int .i64 N := f81
                    clear f81
                    subst f81'
                    have f83' : z83 = .string (strB os) := f83
                    clear f83
                    subst f83'
                    have f84' : z84 = .slice A5 os.length c5 := f84
                    clear f84
                    subst f84'
                    have f85' : z85 = .string (strB os) := f85
                    clear f85
                    subst f85'
                    have f86' : z86 = .bool false := f86
                    clear f86
                    subst f86'
                    simp only [Act.put, List.setIfInBounds_toArray, List.set_cons_zero, List.set_cons_succ]
                    obtain ⟨A9, c9, rfl, hs9, _⟩ := f82
                    obtain ⟨hg6, hR6⟩ := hBE
                    obtain ⟨wE0, rfl⟩ : ∃ x, x = wE := ⟨_, rfl⟩
                    rw [← HTR.out, HF2.out] at hR6
                    have hqx := (Below.heap_alloc (((w5.setCell ⟨WB, 0, none⟩ (.slice A b.length c)).setCell ⟨WB, 1, none⟩ (.int .i64 p2)).setCell ⟨WB, 2, none⟩ (.bool false)) (.cells #[.slice A b.length c, .int .i64 p2, .bool false] 40) WB (by simp [World.setCell] <;> omega)).trans (heap_three HQ5.out (.slice A b.length c) (.int .i64 p2) (.bool false))
                    have hbs := ((HB5.out.setCell (p := ⟨WB, 0, none⟩) hwWB (.slice A b.length c)).setCell (p := ⟨WB, 1, none⟩) hwWB (.int .i64 p2)).setCell (p := ⟨WB, 2, none⟩) hwWB (.bool false)
                    have hbx := hbs.alloc hbs.size (.cells #[.slice A b.length c, .int .i64 p2, .bool false] 40)
                    have hsx : base ≤ ((((w5.setCell ⟨WB, 0, none⟩ (.slice A b.length c)).setCell ⟨WB, 1, none⟩ (.int .i64 p2)).setCell ⟨WB, 2, none⟩ (.bool false)).alloc (.cells #[.slice A b.length c, .int .i64 p2, .bool false] 40)).heap.size := (by simp [World.setCell] <;> omega)
                    have hq6 := (hg6.block WB (by simp [World.setCell] <;> omega) (by simp only [ne_eq, Option.some.injEq]; omega)).trans hqx
                    obtain ⟨k0, k1, k2, k3, k4, k5⟩ := cells3 hq6
                    have HQ6 := Lib.hid hq6
                    have HR6 := Lib.hid hR6
                    have HB6 := Lib.hid (hbx.trans ((RdrX.keeps hR6.le hsx hg6).mono hwb))
                    clear hq6 hqx hbx hbs hsx hR6 hg6
                    clear hs9 HS5 HX5 HX5n HRQ HN1
                    go_wp2
                    have HK2 := Lib.hid (cells3 HQ6.out).2.2.1
                    have HWW := Lib.hid (World.block_lt_of_cell? _ _ (cells3 HQ6.out).1)
                    refine free_one (R := R) 1 (fun w' => w' = (wE0).drew) (n := 23) (T := _) [0, 1, 0, 7, 15, 31, 63, 31, 159, 511, 1023, 2047, 4095, 8191, 4095, 20479, 53247, 131071, 262143, 524287, 1048575, 2097151, 4194303] [(0, 93), (1, 94), (2, 95), (3, 96), (4, 97), (5, 98), (6, 99), (7, 100), (8, 101), (9, 102), (10, 103), (11, 104), (12, 105), (13, 106), (14, 107), (15, 108), (16, 109), (17, 110), (18, 111), (19, 112), (20, 113), (21, 114), (22, 115)] (fun i v w => match i with | 0 => v = .pointer (some ⟨R, 0, none⟩) | 1 => v = .int .i64 ((b.length : Int) - p2) | 2 => v = .int .i64 ((b.length : Int) - p2) | 3 => v = .bool false | 4 => v = .bool false | 5 => v = .pointer (some ⟨R, 0, none⟩) | 6 => v = .bool false | 7 => v = .pointer (some ⟨WB, 2, none⟩) | 8 => v = .bool false | 9 => v = .bool false | 10 => v = .bool false | 11 => v = .bool false | 12 => v = .pointer (some ⟨R, 0, none⟩) | 13 => v = .bool ((b.length : Int) - p2 == 0) | 14 => v = .pointer (some ⟨WB, 2, none⟩) | 15 => v = .bool false | 16 => v = .bool true | 17 => v = .bool true | 18 => v = .int .i64 ((b.length : Int) - p2) | 19 => v = .bool ((b.length : Int) - p2 == 0) | 20 => v = .bool ((b.length : Int) - p2 == 0) | 21 => v = .bool false | 22 => v = .bool false | _ => True) (by kernel_rfl) rfl rfl (by kernel_rfl) (by kernel_rfl) (by kernel_rfl) rfl (by kernel_rfl) ⟨94, by simp⟩ ?_ ?_
                    · intro e he a w hB hel hdep
                      simp only [List.mem_cons, List.not_mem_nil, or_false] at he
                      rcases he with rfl | rfl | rfl | rfl | rfl | rfl | rfl | rfl | rfl | rfl | rfl | rfl | rfl | rfl | rfl | rfl | rfl | rfl | rfl | rfl | rfl | rfl | rfl
                      · have h6 : a.tmps[6]? = some (.pointer (some ⟨R, 0, none⟩)) := (hel 6 (by decide)).trans rfl
                        have e6 : a.eval (.tmp 6) = .pointer (some ⟨R, 0, none⟩) := eval_of h6
                        exact ⟨_, rfl, rfl, Ok.move (wanted_none rfl) (.inl rfl) e6 (fun _ _ => rfl)⟩
                      · obtain ⟨v93, h93, q93⟩ := hdep (0, 93) (by decide) (by decide)
                        obtain rfl : v93 = .pointer (some ⟨R, 0, none⟩) := q93.now
                        replace h93 : a.tmps[93]? = some (.pointer (some ⟨R, 0, none⟩)) := h93
                        have e93 : a.eval (.tmp 93) = .pointer (some ⟨R, 0, none⟩) := eval_of h93
                        obtain rfl : w = (wE0).drew := hB.2.2.elim id id
                        exact ⟨_, rfl, rfl, Ok.call (T := fun w w' => Tq R w w' ∧ w' = (wE0).drew) Try.func15 (by kernel_rfl) rfl #[.pointer (some ⟨R, 0, none⟩)] (wanted_none rfl) rfl (by simp [e93]) ((left_o base R (b.drop p2) false _ ((b.length : Int) - p2) (by have := HTL.out; rw [List.length_drop]; omega) (HR6.out.below ((Below.refl _ _).drew))).mono (by rintro e w' ⟨rfl, rfl⟩; exact ⟨_, rfl, fun _ _ => rfl, Tq.refl _ _, rfl⟩))⟩
                      · have h15 : a.tmps[15]? = some (.int .i64 ((b.length : Int) - p2)) := (hel 15 (by decide)).trans rfl
                        have e15 : a.eval (.tmp 15) = .int .i64 ((b.length : Int) - p2) := eval_of h15
                        exact ⟨_, rfl, rfl, Ok.move (wanted_none rfl) (.inl rfl) e15 (fun _ _ => rfl)⟩
                      · obtain ⟨v94, h94, q94⟩ := hdep (1, 94) (by decide) (by decide)
                        obtain rfl : v94 = .int .i64 ((b.length : Int) - p2) := q94.now
                        replace h94 : a.tmps[94]? = some (.int .i64 ((b.length : Int) - p2)) := h94
                        have e94 : a.eval (.tmp 94) = .int .i64 ((b.length : Int) - p2) := eval_of h94
                        obtain ⟨v95, h95, q95⟩ := hdep (2, 95) (by decide) (by decide)
                        obtain rfl : v95 = .int .i64 ((b.length : Int) - p2) := q95.now
                        replace h95 : a.tmps[95]? = some (.int .i64 ((b.length : Int) - p2)) := h95
                        have e95 : a.eval (.tmp 95) = .int .i64 ((b.length : Int) - p2) := eval_of h95
                        exact ⟨_, rfl, rfl, Ok.pure (.bool false) (wanted_none rfl) (by simp only [execOp]; go_simp) (fun _ _ => rfl)⟩
                      · obtain ⟨v96, h96, q96⟩ := hdep (3, 96) (by decide) (by decide)
                        obtain rfl : v96 = .bool false := q96.now
                        replace h96 : a.tmps[96]? = some (.bool false) := h96
                        have e96 : a.eval (.tmp 96) = .bool false := eval_of h96
                        exact ⟨_, rfl, rfl, Ok.move (wanted_none rfl) (.inl rfl) (eval_of h96) q96⟩
                      · obtain ⟨v97, h97, q97⟩ := hdep (4, 97) (by decide) (by decide)
                        obtain rfl : v97 = .bool false := q97.now
                        replace h97 : a.tmps[97]? = some (.bool false) := h97
                        have e97 : a.eval (.tmp 97) = .bool false := eval_of h97
                        have h6 : a.tmps[6]? = some (.pointer (some ⟨R, 0, none⟩)) := (hel 6 (by decide)).trans rfl
                        have e6 : a.eval (.tmp 6) = .pointer (some ⟨R, 0, none⟩) := eval_of h6
                        exact ⟨_, rfl, rfl, Ok.move (wanted_on (t := 97) rfl rfl rfl h97) (.inl rfl) e6 (fun _ _ => rfl)⟩
                      · obtain ⟨v97, h97, q97⟩ := hdep (4, 97) (by decide) (by decide)
                        obtain rfl : v97 = .bool false := q97.now
                        replace h97 : a.tmps[97]? = some (.bool false) := h97
                        have e97 : a.eval (.tmp 97) = .bool false := eval_of h97
                        obtain ⟨v98, h98, q98⟩ := hdep (5, 98) (by decide) (by decide)
                        obtain rfl : v98 = .pointer (some ⟨R, 0, none⟩) := q98.now
                        replace h98 : a.tmps[98]? = some (.pointer (some ⟨R, 0, none⟩)) := h98
                        have e98 : a.eval (.tmp 98) = .pointer (some ⟨R, 0, none⟩) := eval_of h98
                        obtain rfl : w = (wE0).drew := hB.2.2.elim id id
                        exact ⟨_, rfl, rfl, Ok.call (T := Same) Try.func14 (by kernel_rfl) rfl #[.pointer (some ⟨R, 0, none⟩)] (wanted_on (t := 97) rfl rfl rfl h97) rfl (by simp [e98]) ((failed_n base R (b.drop p2) false _ (HR6.out.below ((Below.refl _ _).drew))).mono (by rintro e w' ⟨rfl, rfl⟩; exact ⟨_, rfl, fun _ _ => rfl, rfl⟩))⟩
                      · obtain ⟨v97, h97, q97⟩ := hdep (4, 97) (by decide) (by decide)
                        obtain rfl : v97 = .bool false := q97.now
                        replace h97 : a.tmps[97]? = some (.bool false) := h97
                        have e97 : a.eval (.tmp 97) = .bool false := eval_of h97
                        have h8 : a.tmps[8]? = some (.pointer (some ⟨WB, 0, none⟩)) := (hel 8 (by decide)).trans rfl
                        have e8 : a.eval (.tmp 8) = .pointer (some ⟨WB, 0, none⟩) := eval_of h8
                        exact ⟨_, rfl, rfl, Ok.pure (.pointer (some ⟨WB, 2, none⟩)) (wanted_on (t := 97) rfl rfl rfl h97) (by simp only [execOp]; go_simp) (fun _ _ => rfl)⟩
                      · obtain ⟨v97, h97, q97⟩ := hdep (4, 97) (by decide) (by decide)
                        obtain rfl : v97 = .bool false := q97.now
                        replace h97 : a.tmps[97]? = some (.bool false) := h97
                        have e97 : a.eval (.tmp 97) = .bool false := eval_of h97
                        obtain ⟨v100, h100, q100⟩ := hdep (7, 100) (by decide) (by decide)
                        obtain rfl : v100 = .pointer (some ⟨WB, 2, none⟩) := q100.now
                        replace h100 : a.tmps[100]? = some (.pointer (some ⟨WB, 2, none⟩)) := h100
                        have e100 : a.eval (.tmp 100) = .pointer (some ⟨WB, 2, none⟩) := eval_of h100
                        have k := (World.grownBy.cell_far hB.1 ⟨WB, 2, none⟩ HWW.out (by simp only [ne_eq, Option.some.injEq]; omega)).trans HK2.out
                        exact ⟨_, rfl, rfl, Ok.pure (.bool false) (wanted_on (t := 97) rfl rfl rfl h97) (by simp only [execOp]; go_simp) (fun _ _ => rfl)⟩
                      · obtain ⟨v97, h97, q97⟩ := hdep (4, 97) (by decide) (by decide)
                        obtain rfl : v97 = .bool false := q97.now
                        replace h97 : a.tmps[97]? = some (.bool false) := h97
                        have e97 : a.eval (.tmp 97) = .bool false := eval_of h97
                        obtain ⟨v99, h99, q99⟩ := hdep (6, 99) (by decide) (by decide)
                        obtain rfl : v99 = .bool false := q99.now
                        replace h99 : a.tmps[99]? = some (.bool false) := h99
                        have e99 : a.eval (.tmp 99) = .bool false := eval_of h99
                        obtain ⟨v101, h101, q101⟩ := hdep (8, 101) (by decide) (by decide)
                        obtain rfl : v101 = .bool false := q101.now
                        replace h101 : a.tmps[101]? = some (.bool false) := h101
                        have e101 : a.eval (.tmp 101) = .bool false := eval_of h101
                        exact ⟨_, rfl, rfl, Ok.pure (.bool false) (wanted_on (t := 97) rfl rfl rfl h97) (by simp only [execOp]; go_simp) (fun _ _ => rfl)⟩
                      · obtain ⟨v97, h97, q97⟩ := hdep (4, 97) (by decide) (by decide)
                        obtain rfl : v97 = .bool false := q97.now
                        replace h97 : a.tmps[97]? = some (.bool false) := h97
                        have e97 : a.eval (.tmp 97) = .bool false := eval_of h97
                        obtain ⟨v102, h102, q102⟩ := hdep (9, 102) (by decide) (by decide)
                        obtain rfl : v102 = .bool false := q102.now
                        replace h102 : a.tmps[102]? = some (.bool false) := h102
                        have e102 : a.eval (.tmp 102) = .bool false := eval_of h102
                        exact ⟨_, rfl, rfl, Ok.pure (.bool false) (wanted_none rfl) (by simp only [execOp]; go_simp) (fun _ _ => rfl)⟩
                      · obtain ⟨v103, h103, q103⟩ := hdep (10, 103) (by decide) (by decide)
                        obtain rfl : v103 = .bool false := q103.now
                        replace h103 : a.tmps[103]? = some (.bool false) := h103
                        have e103 : a.eval (.tmp 103) = .bool false := eval_of h103
                        exact ⟨_, rfl, rfl, Ok.move (wanted_none rfl) (.inl rfl) (eval_of h103) q103⟩
                      · obtain ⟨v104, h104, q104⟩ := hdep (11, 104) (by decide) (by decide)
                        obtain rfl : v104 = .bool false := q104.now
                        replace h104 : a.tmps[104]? = some (.bool false) := h104
                        have e104 : a.eval (.tmp 104) = .bool false := eval_of h104
                        have h6 : a.tmps[6]? = some (.pointer (some ⟨R, 0, none⟩)) := (hel 6 (by decide)).trans rfl
                        have e6 : a.eval (.tmp 6) = .pointer (some ⟨R, 0, none⟩) := eval_of h6
                        exact ⟨_, rfl, rfl, Ok.move (wanted_on (t := 104) rfl rfl rfl h104) (.inl rfl) e6 (fun _ _ => rfl)⟩
                      · obtain ⟨v104, h104, q104⟩ := hdep (11, 104) (by decide) (by decide)
                        obtain rfl : v104 = .bool false := q104.now
                        replace h104 : a.tmps[104]? = some (.bool false) := h104
                        have e104 : a.eval (.tmp 104) = .bool false := eval_of h104
                        obtain ⟨v105, h105, q105⟩ := hdep (12, 105) (by decide) (by decide)
                        obtain rfl : v105 = .pointer (some ⟨R, 0, none⟩) := q105.now
                        replace h105 : a.tmps[105]? = some (.pointer (some ⟨R, 0, none⟩)) := h105
                        have e105 : a.eval (.tmp 105) = .pointer (some ⟨R, 0, none⟩) := eval_of h105
                        obtain rfl : w = (wE0).drew := hB.2.2.elim id id
                        exact ⟨_, rfl, rfl, Ok.call (T := Same) Try.func16 (by kernel_rfl) rfl #[.pointer (some ⟨R, 0, none⟩)] (wanted_on (t := 104) rfl rfl rfl h104) rfl (by simp [e105]) ((ended_n base R (b.drop p2) false _ ((b.length : Int) - p2 == 0) (HR6.out.below ((Below.refl _ _).drew)) (by rw [drop_empty b p2 HTL.out]; rfl)).mono (by rintro e w' ⟨rfl, rfl⟩; exact ⟨_, rfl, fun _ _ => rfl, rfl⟩))⟩
                      · obtain ⟨v104, h104, q104⟩ := hdep (11, 104) (by decide) (by decide)
                        obtain rfl : v104 = .bool false := q104.now
                        replace h104 : a.tmps[104]? = some (.bool false) := h104
                        have e104 : a.eval (.tmp 104) = .bool false := eval_of h104
                        have h8 : a.tmps[8]? = some (.pointer (some ⟨WB, 0, none⟩)) := (hel 8 (by decide)).trans rfl
                        have e8 : a.eval (.tmp 8) = .pointer (some ⟨WB, 0, none⟩) := eval_of h8
                        exact ⟨_, rfl, rfl, Ok.pure (.pointer (some ⟨WB, 2, none⟩)) (wanted_on (t := 104) rfl rfl rfl h104) (by simp only [execOp]; go_simp) (fun _ _ => rfl)⟩
                      · obtain ⟨v104, h104, q104⟩ := hdep (11, 104) (by decide) (by decide)
                        obtain rfl : v104 = .bool false := q104.now
                        replace h104 : a.tmps[104]? = some (.bool false) := h104
                        have e104 : a.eval (.tmp 104) = .bool false := eval_of h104
                        obtain ⟨v107, h107, q107⟩ := hdep (14, 107) (by decide) (by decide)
                        obtain rfl : v107 = .pointer (some ⟨WB, 2, none⟩) := q107.now
                        replace h107 : a.tmps[107]? = some (.pointer (some ⟨WB, 2, none⟩)) := h107
                        have e107 : a.eval (.tmp 107) = .pointer (some ⟨WB, 2, none⟩) := eval_of h107
                        have k := (World.grownBy.cell_far hB.1 ⟨WB, 2, none⟩ HWW.out (by simp only [ne_eq, Option.some.injEq]; omega)).trans HK2.out
                        exact ⟨_, rfl, rfl, Ok.pure (.bool false) (wanted_on (t := 104) rfl rfl rfl h104) (by simp only [execOp]; go_simp) (fun _ _ => rfl)⟩
                      · obtain ⟨v104, h104, q104⟩ := hdep (11, 104) (by decide) (by decide)
                        obtain rfl : v104 = .bool false := q104.now
                        replace h104 : a.tmps[104]? = some (.bool false) := h104
                        have e104 : a.eval (.tmp 104) = .bool false := eval_of h104
                        obtain ⟨v108, h108, q108⟩ := hdep (15, 108) (by decide) (by decide)
                        obtain rfl : v108 = .bool false := q108.now
                        replace h108 : a.tmps[108]? = some (.bool false) := h108
                        have e108 : a.eval (.tmp 108) = .bool false := eval_of h108
                        exact ⟨_, rfl, rfl, Ok.pure (.bool true) (wanted_on (t := 104) rfl rfl rfl h104) (by simp only [execOp]; go_simp) (fun _ _ => rfl)⟩
                      · obtain ⟨v104, h104, q104⟩ := hdep (11, 104) (by decide) (by decide)
                        obtain rfl : v104 = .bool false := q104.now
                        replace h104 : a.tmps[104]? = some (.bool false) := h104
                        have e104 : a.eval (.tmp 104) = .bool false := eval_of h104
                        obtain ⟨v109, h109, q109⟩ := hdep (16, 109) (by decide) (by decide)
                        obtain rfl : v109 = .bool true := q109.now
                        replace h109 : a.tmps[109]? = some (.bool true) := h109
                        have e109 : a.eval (.tmp 109) = .bool true := eval_of h109
                        exact ⟨_, rfl, rfl, Ok.move (wanted_on (t := 104) rfl rfl rfl h104) (.inl rfl) (eval_of h109) q109⟩
                      · obtain ⟨v110, h110, q110⟩ := hdep (17, 110) (by decide) (by decide)
                        obtain rfl : v110 = .bool true := q110.now
                        replace h110 : a.tmps[110]? = some (.bool true) := h110
                        have e110 : a.eval (.tmp 110) = .bool true := eval_of h110
                        have h15 : a.tmps[15]? = some (.int .i64 ((b.length : Int) - p2)) := (hel 15 (by decide)).trans rfl
                        have e15 : a.eval (.tmp 15) = .int .i64 ((b.length : Int) - p2) := eval_of h15
                        exact ⟨_, rfl, rfl, Ok.move (wanted_on (t := 110) rfl rfl rfl h110) (.inl rfl) e15 (fun _ _ => rfl)⟩
                      · obtain ⟨v110, h110, q110⟩ := hdep (17, 110) (by decide) (by decide)
                        obtain rfl : v110 = .bool true := q110.now
                        replace h110 : a.tmps[110]? = some (.bool true) := h110
                        have e110 : a.eval (.tmp 110) = .bool true := eval_of h110
                        obtain ⟨v111, h111, q111⟩ := hdep (18, 111) (by decide) (by decide)
                        obtain rfl : v111 = .int .i64 ((b.length : Int) - p2) := q111.now
                        replace h111 : a.tmps[111]? = some (.int .i64 ((b.length : Int) - p2)) := h111
                        have e111 : a.eval (.tmp 111) = .int .i64 ((b.length : Int) - p2) := eval_of h111
                        exact ⟨_, rfl, rfl, Ok.pure (.bool ((b.length : Int) - p2 == 0)) (wanted_on (t := 110) rfl rfl rfl h110) (by simp only [execOp]; go_simp) (fun _ _ => rfl)⟩
                      · obtain ⟨v104, h104, q104⟩ := hdep (11, 104) (by decide) (by decide)
                        obtain rfl : v104 = .bool false := q104.now
                        replace h104 : a.tmps[104]? = some (.bool false) := h104
                        have e104 : a.eval (.tmp 104) = .bool false := eval_of h104
                        obtain ⟨v110, h110, q110⟩ := hdep (17, 110) (by decide) (by decide)
                        obtain rfl : v110 = .bool true := q110.now
                        replace h110 : a.tmps[110]? = some (.bool true) := h110
                        have e110 : a.eval (.tmp 110) = .bool true := eval_of h110
                        obtain ⟨v112, h112, q112⟩ := hdep (19, 112) (by decide) (by decide)
                        obtain rfl : v112 = .bool ((b.length : Int) - p2 == 0) := q112.now
                        replace h112 : a.tmps[112]? = some (.bool ((b.length : Int) - p2 == 0)) := h112
                        have e112 : a.eval (.tmp 112) = .bool ((b.length : Int) - p2 == 0) := eval_of h112
                        exact ⟨_, rfl, rfl, Ok.pure (.bool ((b.length : Int) - p2 == 0)) (wanted_on (t := 104) rfl rfl rfl h104) (by simp only [execOp]; go_simp) (fun _ _ => rfl)⟩
                      · obtain ⟨v104, h104, q104⟩ := hdep (11, 104) (by decide) (by decide)
                        obtain rfl : v104 = .bool false := q104.now
                        replace h104 : a.tmps[104]? = some (.bool false) := h104
                        have e104 : a.eval (.tmp 104) = .bool false := eval_of h104
                        obtain ⟨v106, h106, q106⟩ := hdep (13, 106) (by decide) (by decide)
                        obtain rfl : v106 = .bool ((b.length : Int) - p2 == 0) := q106.now
                        replace h106 : a.tmps[106]? = some (.bool ((b.length : Int) - p2 == 0)) := h106
                        have e106 : a.eval (.tmp 106) = .bool ((b.length : Int) - p2 == 0) := eval_of h106
                        obtain ⟨v113, h113, q113⟩ := hdep (20, 113) (by decide) (by decide)
                        obtain rfl : v113 = .bool ((b.length : Int) - p2 == 0) := q113.now
                        replace h113 : a.tmps[113]? = some (.bool ((b.length : Int) - p2 == 0)) := h113
                        have e113 : a.eval (.tmp 113) = .bool ((b.length : Int) - p2 == 0) := eval_of h113
                        exact ⟨_, rfl, rfl, Ok.pure (.bool false) (wanted_on (t := 104) rfl rfl rfl h104) (by simp only [execOp]; go_simp) (fun _ _ => rfl)⟩
                      · obtain ⟨v104, h104, q104⟩ := hdep (11, 104) (by decide) (by decide)
                        obtain rfl : v104 = .bool false := q104.now
                        replace h104 : a.tmps[104]? = some (.bool false) := h104
                        have e104 : a.eval (.tmp 104) = .bool false := eval_of h104
                        obtain ⟨v114, h114, q114⟩ := hdep (21, 114) (by decide) (by decide)
                        obtain rfl : v114 = .bool false := q114.now
                        replace h114 : a.tmps[114]? = some (.bool false) := h114
                        have e114 : a.eval (.tmp 114) = .bool false := eval_of h114
                        exact ⟨_, rfl, rfl, Ok.pure (.bool false) (wanted_none rfl) (by simp only [execOp]; go_simp) (fun _ _ => rfl)⟩
                    intro vs wE hBE hS
                    have f93 := hS (0, 93) (by decide)
                    have f94 := hS (1, 94) (by decide)
                    have f95 := hS (2, 95) (by decide)
                    have f96 := hS (3, 96) (by decide)
                    have f97 := hS (4, 97) (by decide)
                    have f98 := hS (5, 98) (by decide)
                    have f99 := hS (6, 99) (by decide)
                    have f100 := hS (7, 100) (by decide)
                    have f101 := hS (8, 101) (by decide)
                    have f102 := hS (9, 102) (by decide)
                    have f103 := hS (10, 103) (by decide)
                    have f104 := hS (11, 104) (by decide)
                    have f105 := hS (12, 105) (by decide)
                    have f106 := hS (13, 106) (by decide)
                    have f107 := hS (14, 107) (by decide)
                    have f108 := hS (15, 108) (by decide)
                    have f109 := hS (16, 109) (by decide)
                    have f110 := hS (17, 110) (by decide)
                    have f111 := hS (18, 111) (by decide)
                    have f112 := hS (19, 112) (by decide)
                    have f113 := hS (20, 113) (by decide)
                    have f114 := hS (21, 114) (by decide)
                    have f115 := hS (22, 115) (by decide)
                    clear hS
                    simp only [tells, List.map_cons, List.map_nil, putSel, if_true]
                    generalize vs 0 = z93 at *
                    generalize vs 1 = z94 at *
                    generalize vs 2 = z95 at *
                    generalize vs 3 = z96 at *
                    generalize vs 4 = z97 at *
                    generalize vs 5 = z98 at *
                    generalize vs 6 = z99 at *
                    generalize vs 7 = z100 at *
                    generalize vs 8 = z101 at *
                    generalize vs 9 = z102 at *
                    generalize vs 10 = z103 at *
                    generalize vs 11 = z104 at *
                    generalize vs 12 = z105 at *
                    generalize vs 13 = z106 at *
                    generalize vs 14 = z107 at *
                    generalize vs 15 = z108 at *
                    generalize vs 16 = z109 at *
                    generalize vs 17 = z110 at *
                    generalize vs 18 = z111 at *
                    generalize vs 19 = z112 at *
                    generalize vs 20 = z113 at *
                    generalize vs 21 = z114 at *
                    generalize vs 22 = z115 at *
                    have f93' : z93 = .pointer (some ⟨R, 0, none⟩) := f93
                    clear f93
                    subst f93'
                    have f94' : z94 = .int .i64 ((b.length : Int) - p2) := f94
                    clear f94
                    subst f94'
                    have f95' : z95 = .int .i64 ((b.length : Int) - p2) := f95
                    clear f95
                    subst f95'
                    have f96' : z96 = .bool false := f96
                    clear f96
                    subst f96'
                    have f97' : z97 = .bool false := f97
                    clear f97
                    subst f97'
                    have f98' : z98 = .pointer (some ⟨R, 0, none⟩) := f98
                    clear f98
                    subst f98'
                    have f99' : z99 = .bool false := f99
                    clear f99
                    subst f99'
                    have f100' : z100 = .pointer (some ⟨WB, 2, none⟩) := f100
                    clear f100
                    subst f100'
                    have f101' : z101 = .bool false := f101
                    clear f101
                    subst f101'
                    have f102' : z102 = .bool false := f102
                    clear f102
                    subst f102'
                    have f103' : z103 = .bool false := f103
                    clear f103
                    subst f103'
                    have f104' : z104 = .bool false := f104
                    clear f104
                    subst f104'
                    have f105' : z105 = .pointer (some ⟨R, 0, none⟩) := f105
                    clear f105
                    subst f105'
                    have f106' : z106 = .bool ((b.length : Int) - p2 == 0) := f106
                    clear f106
                    subst f106'
                    have f107' : z107 = .pointer (some ⟨WB, 2, none⟩) := f107
                    clear f107
                    subst f107'
                    have f108' : z108 = .bool false := f108
                    clear f108
                    subst f108'
                    have f109' : z109 = .bool true := f109
                    clear f109
                    subst f109'
                    have f110' : z110 = .bool true := f110
                    clear f110
                    subst f110'
                    have f111' : z111 = .int .i64 ((b.length : Int) - p2) := f111
                    clear f111
                    subst f111'
                    have f112' : z112 = .bool ((b.length : Int) - p2 == 0) := f112
                    clear f112
                    subst f112'
                    have f113' : z113 = .bool ((b.length : Int) - p2 == 0) := f113
                    clear f113
                    subst f113'
                    have f114' : z114 = .bool false := f114
                    clear f114
                    subst f114'
                    have f115' : z115 = .bool false := f115
                    clear f115
                    subst f115'
                    simp only [Act.put, List.setIfInBounds_toArray, List.set_cons_zero, List.set_cons_succ]
                    obtain ⟨_, hwE⟩ := hBE
                    subst hwE
                    go_wp2
                    go_roundw
                    case rel => exact ⟨k + 1, p2, false, by omega, HTL.out, by go_num, HR6.out.below ((Below.refl _ _).drew), HQ6.out, HB6.out.drew⟩
                    case measure => simp [intOf]; omega
                  · go_wp2_with (go_at_call 18; refine (HRC.out _ (HRb.out.below (alloc_below _ _)) hat (by omega)).mono ?_; rintro e w5 ⟨A5, c5, rfl, hs5x, hn5x, hb5⟩; have hq5 : w5.heap[WB]? = some (.cells #[.slice A b.length c, .int .i64 at_, .bool f] 40) := (hb5.block WB (by simp <;> omega)).trans ((Below.heap_alloc _ _ _ hWq).trans HQ.out); have hn5 : w5.heap[wr.heap.size]? = some (.cells #[.int .i64 1, .int .i64 N] 42) := (hb5.block wr.heap.size (by simp)).trans (heap_alloc_new wr _); obtain ⟨d0, d1, d2, d3, d4, d5⟩ := cells3 hq5; obtain ⟨m0, m1, m2, m3⟩ := cells2 hn5; have hs5 : wr.heap.size + 1 ≤ w5.heap.size := (by have := hb5.size; simpa using this); have HB5 := Lib.hid (below_step (below_step HBq.out (alloc_below _ _)) hb5); have HR5 := Lib.hid ((HRq.out.below (alloc_below _ _)).below hb5); have HQ5 := Lib.hid hq5; have HN5 := Lib.hid hn5; have hw5 : WB < w5.heap.size := (by omega); have hw5b : wr.heap.size < w5.heap.size := (by omega); have u1 : ¬ (WB = wr.heap.size) := (by omega); have u2 : ¬ (wr.heap.size = WB) := (by omega); have u3 : ¬ (w5.heap.size = WB) := (by omega); have u4 : ¬ (WB = w5.heap.size) := (by omega); clear hq5 hn5 hb5; have HS5 := Lib.hid hs5x; have HZ5 := Lib.hid (show ∀ a, A5 = some a → wr.heap.size + 1 ≤ a.block from fun a e => by have := hn5x a e; simpa using this); clear hs5x hn5x)
                    have HX5 := Lib.hid ((sl_three HS5.out (s := WB) (fun a e => by have := HZ5.out a e; omega) (.slice A b.length c) (.int .i64 p2) (.bool true)).below (alloc_below _ (.cells #[.slice A b.length c, .int .i64 p2, .bool true] 40)))
                    have HX5n := Lib.hid (show ∀ a, A5 = some a → a.block ≠ R from fun a e => by have := HZ5.out a e; omega)
                    have HRQ := Lib.hid ((rdr_three HR5.out hRlt (.slice A b.length c) (.int .i64 p2) (.bool true)).below (alloc_below _ (.cells #[.slice A b.length c, .int .i64 p2, .bool true] 40)))
                    have HBA := Lib.hid (show wr.heap.size < ((((w5.setCell ⟨WB, 0, none⟩ (.slice A b.length c)).setCell ⟨WB, 1, none⟩ (.int .i64 p2)).setCell ⟨WB, 2, none⟩ (.bool true)).alloc (.cells #[.slice A b.length c, .int .i64 p2, .bool true] 40)).heap.size ∧ wr.heap.size ≠ R from ⟨by simp [World.setCell] <;> omega, by omega⟩)
                    have HN1 := Lib.hid (show ((((w5.setCell ⟨WB, 0, none⟩ (.slice A b.length c)).setCell ⟨WB, 1, none⟩ (.int .i64 p2)).setCell ⟨WB, 2, none⟩ (.bool true)).alloc (.cells #[.slice A b.length c, .int .i64 p2, .bool true] 40)).cell? ⟨wr.heap.size, 1, none⟩ = some (.int .i64 N) by
                      rw [Below.cell (alloc_below _ _) (p := ⟨wr.heap.size, 1, none⟩) (by show wr.heap.size < _; simp [World.setCell] <;> omega), World.cell?_setCell_far _ _ _ _ (by show WB ≠ _; omega), World.cell?_setCell_far _ _ _ _ (by show WB ≠ _; omega), World.cell?_setCell_far _ _ _ _ (by show WB ≠ _; omega)]
                      exact (cells2 HN5.out).2.1)
                    have HLB := Lib.hid (show (b.drop at_).length ≤ 140737488355000 by have := HDL.out; omega)
                    clear d0 d1 d2 d3 d4 d5 m0 m1 m2 m3
                    refine free_one (R := R) 3 (fun w' => RdrX w' base R (takeRest (b.drop at_) f N) (takeBad (b.drop at_) f N)) (n := 8) (T := _) [0, 0, 2, 7, 15, 0, 32, 127] [(0, 79), (1, 80), (2, 81), (3, 82), (4, 83), (5, 84), (6, 85), (7, 86)] (fun i v w => match i with | 0 => v = .pointer (some ⟨R, 0, none⟩) | 1 => v = .pointer (some ⟨wr.heap.size, 1, none⟩) | 2 => v = .int .i64 N | 3 => ∃ A' c', v = .slice A' os.length c' ∧ Sl w A' c' os ∧ (0 < os.length → ∀ a, A' = some a → a.block ≠ R) | 4 => v = .string (strB os) | 5 => v = .slice A5 os.length c5 | 6 => v = .string (strB os) | 7 => v = .bool false | _ => True) (by kernel_rfl) rfl rfl (by kernel_rfl) (by kernel_rfl) (by kernel_rfl) rfl (by kernel_rfl) ⟨82, by simp⟩ ?_ ?_
                    · intro e he a w hB hel hdep
                      simp only [List.mem_cons, List.not_mem_nil, or_false] at he
                      rcases he with rfl | rfl | rfl | rfl | rfl | rfl | rfl | rfl
                      · have h6 : a.tmps[6]? = some (.pointer (some ⟨R, 0, none⟩)) := (hel 6 (by decide)).trans rfl
                        have e6 : a.eval (.tmp 6) = .pointer (some ⟨R, 0, none⟩) := eval_of h6
                        exact ⟨_, rfl, rfl, Ok.pure (.pointer (some ⟨R, 0, none⟩)) (wanted_none rfl) (by simp only [execOp]; go_simp) (fun _ _ => rfl)⟩
                      · have h10 : a.tmps[10]? = some (.pointer (some ⟨wr.heap.size, 0, none⟩)) := (hel 10 (by decide)).trans rfl
                        have e10 : a.eval (.tmp 10) = .pointer (some ⟨wr.heap.size, 0, none⟩) := eval_of h10
                        exact ⟨_, rfl, rfl, Ok.pure (.pointer (some ⟨wr.heap.size, 1, none⟩)) (wanted_none rfl) (by simp only [execOp]; go_simp) (fun _ _ => rfl)⟩
                      · obtain ⟨v80, h80, q80⟩ := hdep (1, 80) (by decide) (by decide)
                        obtain rfl : v80 = .pointer (some ⟨wr.heap.size, 1, none⟩) := q80.now
                        replace h80 : a.tmps[80]? = some (.pointer (some ⟨wr.heap.size, 1, none⟩)) := h80
                        have e80 : a.eval (.tmp 80) = .pointer (some ⟨wr.heap.size, 1, none⟩) := eval_of h80
                        have k := (World.grownBy.cell_far hB.1 ⟨wr.heap.size, 1, none⟩ HBA.out.1 (by simp only [ne_eq, Option.some.injEq]; exact HBA.out.2)).trans HN1.out
                        exact ⟨_, rfl, rfl, Ok.pure (.int .i64 N) (wanted_none rfl) (by simp only [execOp]; go_simp) (fun _ _ => rfl)⟩
                      · obtain ⟨v79, h79, q79⟩ := hdep (0, 79) (by decide) (by decide)
                        obtain rfl : v79 = .pointer (some ⟨R, 0, none⟩) := q79.now
                        replace h79 : a.tmps[79]? = some (.pointer (some ⟨R, 0, none⟩)) := h79
                        have e79 : a.eval (.tmp 79) = .pointer (some ⟨R, 0, none⟩) := eval_of h79
                        obtain ⟨v81, h81, q81⟩ := hdep (2, 81) (by decide) (by decide)
                        obtain rfl : v81 = .int .i64 N := q81.now
                        replace h81 : a.tmps[81]? = some (.int .i64 N) := h81
                        have e81 : a.eval (.tmp 81) = .int .i64 N := eval_of h81
                        obtain rfl := hB.2.1 rfl
                        exact ⟨_, rfl, rfl, Ok.call (T := fun w w' => Tq R w w' ∧ RdrX w' base R (takeRest (b.drop at_) f N) (takeBad (b.drop at_) f N)) Try.func19 (by kernel_rfl) rfl #[.pointer (some ⟨R, 0, none⟩), .int .i64 N] (wanted_none rfl) rfl (by simp [e79, e81]) ((take_o base R (b.drop at_) f N _ os HOS.out (HRQ.out.below ((Below.refl _ _).drew)) HLB.out).mono (by rintro e w' ⟨A', c', rfl, hs, hne, hR, hg⟩; exact ⟨_, rfl, fun w2 hb2 => ⟨_, _, rfl, sl_quiet hs hne hb2, hne⟩, hg, hR⟩))⟩
                      · obtain ⟨v82, h82, q82⟩ := hdep (3, 82) (by decide) (by decide)
                        have s82 := q82.now
                        obtain ⟨A', c', rfl, hs, _⟩ := s82
                        have e82 := eval_of h82
                        have k := hs.rd.conv _ c' rfl
                        exact ⟨_, rfl, rfl, Ok.pure (.string (strB os)) (wanted_none rfl) (by simp only [execOp]; go_simp) (fun _ _ => rfl)⟩
                      · have h14 : a.tmps[14]? = some (.slice A5 os.length c5) := (hel 14 (by decide)).trans rfl
                        have e14 : a.eval (.tmp 14) = .slice A5 os.length c5 := eval_of h14
                        exact ⟨_, rfl, rfl, Ok.move (wanted_none rfl) (.inl rfl) e14 (fun _ _ => rfl)⟩
                      · obtain ⟨v84, h84, q84⟩ := hdep (5, 84) (by decide) (by decide)
                        obtain rfl : v84 = .slice A5 os.length c5 := q84.now
                        replace h84 : a.tmps[84]? = some (.slice A5 os.length c5) := h84
                        have e84 : a.eval (.tmp 84) = .slice A5 os.length c5 := eval_of h84
                        have k := (sl_quiet HX5.out (fun _ => HX5n.out) hB.1).rd.conv _ c5 rfl
                        exact ⟨_, rfl, rfl, Ok.pure (.string (strB os)) (wanted_none rfl) (by simp only [execOp]; go_simp) (fun _ _ => rfl)⟩
                      · obtain ⟨v83, h83, q83⟩ := hdep (4, 83) (by decide) (by decide)
                        obtain rfl : v83 = .string (strB os) := q83.now
                        replace h83 : a.tmps[83]? = some (.string (strB os)) := h83
                        have e83 : a.eval (.tmp 83) = .string (strB os) := eval_of h83
                        obtain ⟨v85, h85, q85⟩ := hdep (6, 85) (by decide) (by decide)
                        obtain rfl : v85 = .string (strB os) := q85.now
                        replace h85 : a.tmps[85]? = some (.string (strB os)) := h85
                        have e85 : a.eval (.tmp 85) = .string (strB os) := eval_of h85
                        exact ⟨_, rfl, rfl, Ok.pure (.bool false) (wanted_none rfl) (by simp only [execOp]; go_simp) (fun _ _ => rfl)⟩
                    intro vs wE hBE hS
                    have f79 := hS (0, 79) (by decide)
                    have f80 := hS (1, 80) (by decide)
                    have f81 := hS (2, 81) (by decide)
                    have f82 := hS (3, 82) (by decide)
                    have f83 := hS (4, 83) (by decide)
                    have f84 := hS (5, 84) (by decide)
                    have f85 := hS (6, 85) (by decide)
                    have f86 := hS (7, 86) (by decide)
                    clear hS
                    simp only [tells, List.map_cons, List.map_nil, putSel, if_true]
                    generalize vs 0 = z79 at *
                    generalize vs 1 = z80 at *
                    generalize vs 2 = z81 at *
                    generalize vs 3 = z82 at *
                    generalize vs 4 = z83 at *
                    generalize vs 5 = z84 at *
                    generalize vs 6 = z85 at *
                    generalize vs 7 = z86 at *
                    have f79' : z79 = .pointer (some ⟨R, 0, none⟩) := f79
                    clear f79
                    subst f79'
                    have f80' : z80 = .pointer (some ⟨wr.heap.size, 1, none⟩) := f80
                    clear f80
                    subst f80'
                    have f81' : z81 = .int .i64 N := f81
                    clear f81
                    subst f81'
                    have f83' : z83 = .string (strB os) := f83
                    clear f83
                    subst f83'
                    have f84' : z84 = .slice A5 os.length c5 := f84
                    clear f84
                    subst f84'
                    have f85' : z85 = .string (strB os) := f85
                    clear f85
                    subst f85'
                    have f86' : z86 = .bool false := f86
                    clear f86
                    subst f86'
                    simp only [Act.put, List.setIfInBounds_toArray, List.set_cons_zero, List.set_cons_succ]
                    obtain ⟨A9, c9, rfl, hs9, _⟩ := f82
                    obtain ⟨hg6, hR6⟩ := hBE
                    obtain ⟨wE0, rfl⟩ : ∃ x, x = wE := ⟨_, rfl⟩
                    rw [← HTR.out, HF2.out] at hR6
                    have hqx := (Below.heap_alloc (((w5.setCell ⟨WB, 0, none⟩ (.slice A b.length c)).setCell ⟨WB, 1, none⟩ (.int .i64 p2)).setCell ⟨WB, 2, none⟩ (.bool true)) (.cells #[.slice A b.length c, .int .i64 p2, .bool true] 40) WB (by simp [World.setCell] <;> omega)).trans (heap_three HQ5.out (.slice A b.length c) (.int .i64 p2) (.bool true))
                    have hbs := ((HB5.out.setCell (p := ⟨WB, 0, none⟩) hwWB (.slice A b.length c)).setCell (p := ⟨WB, 1, none⟩) hwWB (.int .i64 p2)).setCell (p := ⟨WB, 2, none⟩) hwWB (.bool true)
                    have hbx := hbs.alloc hbs.size (.cells #[.slice A b.length c, .int .i64 p2, .bool true] 40)
                    have hsx : base ≤ ((((w5.setCell ⟨WB, 0, none⟩ (.slice A b.length c)).setCell ⟨WB, 1, none⟩ (.int .i64 p2)).setCell ⟨WB, 2, none⟩ (.bool true)).alloc (.cells #[.slice A b.length c, .int .i64 p2, .bool true] 40)).heap.size := (by simp [World.setCell] <;> omega)
                    have hq6 := (hg6.block WB (by simp [World.setCell] <;> omega) (by simp only [ne_eq, Option.some.injEq]; omega)).trans hqx
                    obtain ⟨k0, k1, k2, k3, k4, k5⟩ := cells3 hq6
                    have HQ6 := Lib.hid hq6
                    have HR6 := Lib.hid hR6
                    have HB6 := Lib.hid (hbx.trans ((RdrX.keeps hR6.le hsx hg6).mono hwb))
                    clear hq6 hqx hbx hbs hsx hR6 hg6
                    clear hs9 HS5 HX5 HX5n HRQ HN1
                    go_wp2
                    have HK2 := Lib.hid (cells3 HQ6.out).2.2.1
                    have HWW := Lib.hid (World.block_lt_of_cell? _ _ (cells3 HQ6.out).1)
                    refine free_one (R := R) 1 (fun w' => w' = (wE0).drew) (n := 23) (T := _) [0, 1, 0, 7, 15, 31, 63, 31, 159, 511, 1023, 2047, 4095, 8191, 4095, 20479, 53247, 131071, 262143, 524287, 1048575, 2097151, 4194303] [(0, 93), (1, 94), (2, 95), (3, 96), (4, 97), (5, 98), (6, 99), (7, 100), (8, 101), (9, 102), (10, 103), (11, 104), (12, 105), (13, 106), (14, 107), (15, 108), (16, 109), (17, 110), (18, 111), (19, 112), (20, 113), (21, 114), (22, 115)] (fun i v w => match i with | 0 => v = .pointer (some ⟨R, 0, none⟩) | 1 => v = .int .i64 ((b.length : Int) - p2) | 2 => v = .int .i64 ((b.length : Int) - p2) | 3 => v = .bool false | 4 => v = .bool false | 5 => v = .pointer (some ⟨R, 0, none⟩) | 6 => v = .bool true | 7 => v = .pointer (some ⟨WB, 2, none⟩) | 8 => v = .bool true | 9 => v = .bool false | 10 => v = .bool false | 11 => v = .bool false | 12 => v = .pointer (some ⟨R, 0, none⟩) | 13 => v = .bool false | 14 => v = .pointer (some ⟨WB, 2, none⟩) | 15 => v = .bool true | 16 => v = .bool false | 17 => v = .bool false | 18 => True | 19 => True | 20 => v = .bool false | 21 => v = .bool false | 22 => v = .bool false | _ => True) (by kernel_rfl) rfl rfl (by kernel_rfl) (by kernel_rfl) (by kernel_rfl) rfl (by kernel_rfl) ⟨94, by simp⟩ ?_ ?_
                    · intro e he a w hB hel hdep
                      simp only [List.mem_cons, List.not_mem_nil, or_false] at he
                      rcases he with rfl | rfl | rfl | rfl | rfl | rfl | rfl | rfl | rfl | rfl | rfl | rfl | rfl | rfl | rfl | rfl | rfl | rfl | rfl | rfl | rfl | rfl | rfl
                      · have h6 : a.tmps[6]? = some (.pointer (some ⟨R, 0, none⟩)) := (hel 6 (by decide)).trans rfl
                        have e6 : a.eval (.tmp 6) = .pointer (some ⟨R, 0, none⟩) := eval_of h6
                        exact ⟨_, rfl, rfl, Ok.move (wanted_none rfl) (.inl rfl) e6 (fun _ _ => rfl)⟩
                      · obtain ⟨v93, h93, q93⟩ := hdep (0, 93) (by decide) (by decide)
                        obtain rfl : v93 = .pointer (some ⟨R, 0, none⟩) := q93.now
                        replace h93 : a.tmps[93]? = some (.pointer (some ⟨R, 0, none⟩)) := h93
                        have e93 : a.eval (.tmp 93) = .pointer (some ⟨R, 0, none⟩) := eval_of h93
                        obtain rfl : w = (wE0).drew := hB.2.2.elim id id
                        exact ⟨_, rfl, rfl, Ok.call (T := fun w w' => Tq R w w' ∧ w' = (wE0).drew) Try.func15 (by kernel_rfl) rfl #[.pointer (some ⟨R, 0, none⟩)] (wanted_none rfl) rfl (by simp [e93]) ((left_o base R (b.drop p2) true _ ((b.length : Int) - p2) (by have := HTL.out; rw [List.length_drop]; omega) (HR6.out.below ((Below.refl _ _).drew))).mono (by rintro e w' ⟨rfl, rfl⟩; exact ⟨_, rfl, fun _ _ => rfl, Tq.refl _ _, rfl⟩))⟩
                      · have h15 : a.tmps[15]? = some (.int .i64 ((b.length : Int) - p2)) := (hel 15 (by decide)).trans rfl
                        have e15 : a.eval (.tmp 15) = .int .i64 ((b.length : Int) - p2) := eval_of h15
                        exact ⟨_, rfl, rfl, Ok.move (wanted_none rfl) (.inl rfl) e15 (fun _ _ => rfl)⟩
                      · obtain ⟨v94, h94, q94⟩ := hdep (1, 94) (by decide) (by decide)
                        obtain rfl : v94 = .int .i64 ((b.length : Int) - p2) := q94.now
                        replace h94 : a.tmps[94]? = some (.int .i64 ((b.length : Int) - p2)) := h94
                        have e94 : a.eval (.tmp 94) = .int .i64 ((b.length : Int) - p2) := eval_of h94
                        obtain ⟨v95, h95, q95⟩ := hdep (2, 95) (by decide) (by decide)
                        obtain rfl : v95 = .int .i64 ((b.length : Int) - p2) := q95.now
                        replace h95 : a.tmps[95]? = some (.int .i64 ((b.length : Int) - p2)) := h95
                        have e95 : a.eval (.tmp 95) = .int .i64 ((b.length : Int) - p2) := eval_of h95
                        exact ⟨_, rfl, rfl, Ok.pure (.bool false) (wanted_none rfl) (by simp only [execOp]; go_simp) (fun _ _ => rfl)⟩
                      · obtain ⟨v96, h96, q96⟩ := hdep (3, 96) (by decide) (by decide)
                        obtain rfl : v96 = .bool false := q96.now
                        replace h96 : a.tmps[96]? = some (.bool false) := h96
                        have e96 : a.eval (.tmp 96) = .bool false := eval_of h96
                        exact ⟨_, rfl, rfl, Ok.move (wanted_none rfl) (.inl rfl) (eval_of h96) q96⟩
                      · obtain ⟨v97, h97, q97⟩ := hdep (4, 97) (by decide) (by decide)
                        obtain rfl : v97 = .bool false := q97.now
                        replace h97 : a.tmps[97]? = some (.bool false) := h97
                        have e97 : a.eval (.tmp 97) = .bool false := eval_of h97
                        have h6 : a.tmps[6]? = some (.pointer (some ⟨R, 0, none⟩)) := (hel 6 (by decide)).trans rfl
                        have e6 : a.eval (.tmp 6) = .pointer (some ⟨R, 0, none⟩) := eval_of h6
                        exact ⟨_, rfl, rfl, Ok.move (wanted_on (t := 97) rfl rfl rfl h97) (.inl rfl) e6 (fun _ _ => rfl)⟩
                      · obtain ⟨v97, h97, q97⟩ := hdep (4, 97) (by decide) (by decide)
                        obtain rfl : v97 = .bool false := q97.now
                        replace h97 : a.tmps[97]? = some (.bool false) := h97
                        have e97 : a.eval (.tmp 97) = .bool false := eval_of h97
                        obtain ⟨v98, h98, q98⟩ := hdep (5, 98) (by decide) (by decide)
                        obtain rfl : v98 = .pointer (some ⟨R, 0, none⟩) := q98.now
                        replace h98 : a.tmps[98]? = some (.pointer (some ⟨R, 0, none⟩)) := h98
                        have e98 : a.eval (.tmp 98) = .pointer (some ⟨R, 0, none⟩) := eval_of h98
                        obtain rfl : w = (wE0).drew := hB.2.2.elim id id
                        exact ⟨_, rfl, rfl, Ok.call (T := Same) Try.func14 (by kernel_rfl) rfl #[.pointer (some ⟨R, 0, none⟩)] (wanted_on (t := 97) rfl rfl rfl h97) rfl (by simp [e98]) ((failed_n base R (b.drop p2) true _ (HR6.out.below ((Below.refl _ _).drew))).mono (by rintro e w' ⟨rfl, rfl⟩; exact ⟨_, rfl, fun _ _ => rfl, rfl⟩))⟩
                      · obtain ⟨v97, h97, q97⟩ := hdep (4, 97) (by decide) (by decide)
                        obtain rfl : v97 = .bool false := q97.now
                        replace h97 : a.tmps[97]? = some (.bool false) := h97
                        have e97 : a.eval (.tmp 97) = .bool false := eval_of h97
                        have h8 : a.tmps[8]? = some (.pointer (some ⟨WB, 0, none⟩)) := (hel 8 (by decide)).trans rfl
                        have e8 : a.eval (.tmp 8) = .pointer (some ⟨WB, 0, none⟩) := eval_of h8
                        exact ⟨_, rfl, rfl, Ok.pure (.pointer (some ⟨WB, 2, none⟩)) (wanted_on (t := 97) rfl rfl rfl h97) (by simp only [execOp]; go_simp) (fun _ _ => rfl)⟩
                      · obtain ⟨v97, h97, q97⟩ := hdep (4, 97) (by decide) (by decide)
                        obtain rfl : v97 = .bool false := q97.now
                        replace h97 : a.tmps[97]? = some (.bool false) := h97
                        have e97 : a.eval (.tmp 97) = .bool false := eval_of h97
                        obtain ⟨v100, h100, q100⟩ := hdep (7, 100) (by decide) (by decide)
                        obtain rfl : v100 = .pointer (some ⟨WB, 2, none⟩) := q100.now
                        replace h100 : a.tmps[100]? = some (.pointer (some ⟨WB, 2, none⟩)) := h100
                        have e100 : a.eval (.tmp 100) = .pointer (some ⟨WB, 2, none⟩) := eval_of h100
                        have k := (World.grownBy.cell_far hB.1 ⟨WB, 2, none⟩ HWW.out (by simp only [ne_eq, Option.some.injEq]; omega)).trans HK2.out
                        exact ⟨_, rfl, rfl, Ok.pure (.bool true) (wanted_on (t := 97) rfl rfl rfl h97) (by simp only [execOp]; go_simp) (fun _ _ => rfl)⟩
                      · obtain ⟨v97, h97, q97⟩ := hdep (4, 97) (by decide) (by decide)
                        obtain rfl : v97 = .bool false := q97.now
                        replace h97 : a.tmps[97]? = some (.bool false) := h97
                        have e97 : a.eval (.tmp 97) = .bool false := eval_of h97
                        obtain ⟨v99, h99, q99⟩ := hdep (6, 99) (by decide) (by decide)
                        obtain rfl : v99 = .bool true := q99.now
                        replace h99 : a.tmps[99]? = some (.bool true) := h99
                        have e99 : a.eval (.tmp 99) = .bool true := eval_of h99
                        obtain ⟨v101, h101, q101⟩ := hdep (8, 101) (by decide) (by decide)
                        obtain rfl : v101 = .bool true := q101.now
                        replace h101 : a.tmps[101]? = some (.bool true) := h101
                        have e101 : a.eval (.tmp 101) = .bool true := eval_of h101
                        exact ⟨_, rfl, rfl, Ok.pure (.bool false) (wanted_on (t := 97) rfl rfl rfl h97) (by simp only [execOp]; go_simp) (fun _ _ => rfl)⟩
                      · obtain ⟨v97, h97, q97⟩ := hdep (4, 97) (by decide) (by decide)
                        obtain rfl : v97 = .bool false := q97.now
                        replace h97 : a.tmps[97]? = some (.bool false) := h97
                        have e97 : a.eval (.tmp 97) = .bool false := eval_of h97
                        obtain ⟨v102, h102, q102⟩ := hdep (9, 102) (by decide) (by decide)
                        obtain rfl : v102 = .bool false := q102.now
                        replace h102 : a.tmps[102]? = some (.bool false) := h102
                        have e102 : a.eval (.tmp 102) = .bool false := eval_of h102
                        exact ⟨_, rfl, rfl, Ok.pure (.bool false) (wanted_none rfl) (by simp only [execOp]; go_simp) (fun _ _ => rfl)⟩
                      · obtain ⟨v103, h103, q103⟩ := hdep (10, 103) (by decide) (by decide)
                        obtain rfl : v103 = .bool false := q103.now
                        replace h103 : a.tmps[103]? = some (.bool false) := h103
                        have e103 : a.eval (.tmp 103) = .bool false := eval_of h103
                        exact ⟨_, rfl, rfl, Ok.move (wanted_none rfl) (.inl rfl) (eval_of h103) q103⟩
                      · obtain ⟨v104, h104, q104⟩ := hdep (11, 104) (by decide) (by decide)
                        obtain rfl : v104 = .bool false := q104.now
                        replace h104 : a.tmps[104]? = some (.bool false) := h104
                        have e104 : a.eval (.tmp 104) = .bool false := eval_of h104
                        have h6 : a.tmps[6]? = some (.pointer (some ⟨R, 0, none⟩)) := (hel 6 (by decide)).trans rfl
                        have e6 : a.eval (.tmp 6) = .pointer (some ⟨R, 0, none⟩) := eval_of h6
                        exact ⟨_, rfl, rfl, Ok.move (wanted_on (t := 104) rfl rfl rfl h104) (.inl rfl) e6 (fun _ _ => rfl)⟩
                      · obtain ⟨v104, h104, q104⟩ := hdep (11, 104) (by decide) (by decide)
                        obtain rfl : v104 = .bool false := q104.now
                        replace h104 : a.tmps[104]? = some (.bool false) := h104
                        have e104 : a.eval (.tmp 104) = .bool false := eval_of h104
                        obtain ⟨v105, h105, q105⟩ := hdep (12, 105) (by decide) (by decide)
                        obtain rfl : v105 = .pointer (some ⟨R, 0, none⟩) := q105.now
                        replace h105 : a.tmps[105]? = some (.pointer (some ⟨R, 0, none⟩)) := h105
                        have e105 : a.eval (.tmp 105) = .pointer (some ⟨R, 0, none⟩) := eval_of h105
                        obtain rfl : w = (wE0).drew := hB.2.2.elim id id
                        exact ⟨_, rfl, rfl, Ok.call (T := Same) Try.func16 (by kernel_rfl) rfl #[.pointer (some ⟨R, 0, none⟩)] (wanted_on (t := 104) rfl rfl rfl h104) rfl (by simp [e105]) ((ended_n base R (b.drop p2) true _ false (HR6.out.below ((Below.refl _ _).drew)) (rfl)).mono (by rintro e w' ⟨rfl, rfl⟩; exact ⟨_, rfl, fun _ _ => rfl, rfl⟩))⟩
                      · obtain ⟨v104, h104, q104⟩ := hdep (11, 104) (by decide) (by decide)
                        obtain rfl : v104 = .bool false := q104.now
                        replace h104 : a.tmps[104]? = some (.bool false) := h104
                        have e104 : a.eval (.tmp 104) = .bool false := eval_of h104
                        have h8 : a.tmps[8]? = some (.pointer (some ⟨WB, 0, none⟩)) := (hel 8 (by decide)).trans rfl
                        have e8 : a.eval (.tmp 8) = .pointer (some ⟨WB, 0, none⟩) := eval_of h8
                        exact ⟨_, rfl, rfl, Ok.pure (.pointer (some ⟨WB, 2, none⟩)) (wanted_on (t := 104) rfl rfl rfl h104) (by simp only [execOp]; go_simp) (fun _ _ => rfl)⟩
                      · obtain ⟨v104, h104, q104⟩ := hdep (11, 104) (by decide) (by decide)
                        obtain rfl : v104 = .bool false := q104.now
                        replace h104 : a.tmps[104]? = some (.bool false) := h104
                        have e104 : a.eval (.tmp 104) = .bool false := eval_of h104
                        obtain ⟨v107, h107, q107⟩ := hdep (14, 107) (by decide) (by decide)
                        obtain rfl : v107 = .pointer (some ⟨WB, 2, none⟩) := q107.now
                        replace h107 : a.tmps[107]? = some (.pointer (some ⟨WB, 2, none⟩)) := h107
                        have e107 : a.eval (.tmp 107) = .pointer (some ⟨WB, 2, none⟩) := eval_of h107
                        have k := (World.grownBy.cell_far hB.1 ⟨WB, 2, none⟩ HWW.out (by simp only [ne_eq, Option.some.injEq]; omega)).trans HK2.out
                        exact ⟨_, rfl, rfl, Ok.pure (.bool true) (wanted_on (t := 104) rfl rfl rfl h104) (by simp only [execOp]; go_simp) (fun _ _ => rfl)⟩
                      · obtain ⟨v104, h104, q104⟩ := hdep (11, 104) (by decide) (by decide)
                        obtain rfl : v104 = .bool false := q104.now
                        replace h104 : a.tmps[104]? = some (.bool false) := h104
                        have e104 : a.eval (.tmp 104) = .bool false := eval_of h104
                        obtain ⟨v108, h108, q108⟩ := hdep (15, 108) (by decide) (by decide)
                        obtain rfl : v108 = .bool true := q108.now
                        replace h108 : a.tmps[108]? = some (.bool true) := h108
                        have e108 : a.eval (.tmp 108) = .bool true := eval_of h108
                        exact ⟨_, rfl, rfl, Ok.pure (.bool false) (wanted_on (t := 104) rfl rfl rfl h104) (by simp only [execOp]; go_simp) (fun _ _ => rfl)⟩
                      · obtain ⟨v104, h104, q104⟩ := hdep (11, 104) (by decide) (by decide)
                        obtain rfl : v104 = .bool false := q104.now
                        replace h104 : a.tmps[104]? = some (.bool false) := h104
                        have e104 : a.eval (.tmp 104) = .bool false := eval_of h104
                        obtain ⟨v109, h109, q109⟩ := hdep (16, 109) (by decide) (by decide)
                        obtain rfl : v109 = .bool false := q109.now
                        replace h109 : a.tmps[109]? = some (.bool false) := h109
                        have e109 : a.eval (.tmp 109) = .bool false := eval_of h109
                        exact ⟨_, rfl, rfl, Ok.move (wanted_on (t := 104) rfl rfl rfl h104) (.inl rfl) (eval_of h109) q109⟩
                      · obtain ⟨v110, h110, q110⟩ := hdep (17, 110) (by decide) (by decide)
                        obtain rfl : v110 = .bool false := q110.now
                        replace h110 : a.tmps[110]? = some (.bool false) := h110
                        have e110 : a.eval (.tmp 110) = .bool false := eval_of h110
                        exact ⟨_, rfl, rfl, Ok.off (wanted_off (t := 110) rfl rfl rfl h110) (fun _ _ => trivial)⟩
                      · obtain ⟨v110, h110, q110⟩ := hdep (17, 110) (by decide) (by decide)
                        obtain rfl : v110 = .bool false := q110.now
                        replace h110 : a.tmps[110]? = some (.bool false) := h110
                        have e110 : a.eval (.tmp 110) = .bool false := eval_of h110
                        exact ⟨_, rfl, rfl, Ok.off (wanted_off (t := 110) rfl rfl rfl h110) (fun _ _ => trivial)⟩
                      · obtain ⟨v104, h104, q104⟩ := hdep (11, 104) (by decide) (by decide)
                        obtain rfl : v104 = .bool false := q104.now
                        replace h104 : a.tmps[104]? = some (.bool false) := h104
                        have e104 : a.eval (.tmp 104) = .bool false := eval_of h104
                        obtain ⟨v110, h110, q110⟩ := hdep (17, 110) (by decide) (by decide)
                        obtain rfl : v110 = .bool false := q110.now
                        replace h110 : a.tmps[110]? = some (.bool false) := h110
                        have e110 : a.eval (.tmp 110) = .bool false := eval_of h110
                        obtain ⟨v112, h112, q112⟩ := hdep (19, 112) (by decide) (by decide)
                        have s112 := q112.now
                        exact ⟨_, rfl, rfl, Ok.pure (.bool false) (wanted_on (t := 104) rfl rfl rfl h104) (by simp only [execOp]; go_simp) (fun _ _ => rfl)⟩
                      · obtain ⟨v104, h104, q104⟩ := hdep (11, 104) (by decide) (by decide)
                        obtain rfl : v104 = .bool false := q104.now
                        replace h104 : a.tmps[104]? = some (.bool false) := h104
                        have e104 : a.eval (.tmp 104) = .bool false := eval_of h104
                        obtain ⟨v106, h106, q106⟩ := hdep (13, 106) (by decide) (by decide)
                        obtain rfl : v106 = .bool false := q106.now
                        replace h106 : a.tmps[106]? = some (.bool false) := h106
                        have e106 : a.eval (.tmp 106) = .bool false := eval_of h106
                        obtain ⟨v113, h113, q113⟩ := hdep (20, 113) (by decide) (by decide)
                        obtain rfl : v113 = .bool false := q113.now
                        replace h113 : a.tmps[113]? = some (.bool false) := h113
                        have e113 : a.eval (.tmp 113) = .bool false := eval_of h113
                        exact ⟨_, rfl, rfl, Ok.pure (.bool false) (wanted_on (t := 104) rfl rfl rfl h104) (by simp only [execOp]; go_simp) (fun _ _ => rfl)⟩
                      · obtain ⟨v104, h104, q104⟩ := hdep (11, 104) (by decide) (by decide)
                        obtain rfl : v104 = .bool false := q104.now
                        replace h104 : a.tmps[104]? = some (.bool false) := h104
                        have e104 : a.eval (.tmp 104) = .bool false := eval_of h104
                        obtain ⟨v114, h114, q114⟩ := hdep (21, 114) (by decide) (by decide)
                        obtain rfl : v114 = .bool false := q114.now
                        replace h114 : a.tmps[114]? = some (.bool false) := h114
                        have e114 : a.eval (.tmp 114) = .bool false := eval_of h114
                        exact ⟨_, rfl, rfl, Ok.pure (.bool false) (wanted_none rfl) (by simp only [execOp]; go_simp) (fun _ _ => rfl)⟩
                    intro vs wE hBE hS
                    have f93 := hS (0, 93) (by decide)
                    have f94 := hS (1, 94) (by decide)
                    have f95 := hS (2, 95) (by decide)
                    have f96 := hS (3, 96) (by decide)
                    have f97 := hS (4, 97) (by decide)
                    have f98 := hS (5, 98) (by decide)
                    have f99 := hS (6, 99) (by decide)
                    have f100 := hS (7, 100) (by decide)
                    have f101 := hS (8, 101) (by decide)
                    have f102 := hS (9, 102) (by decide)
                    have f103 := hS (10, 103) (by decide)
                    have f104 := hS (11, 104) (by decide)
                    have f105 := hS (12, 105) (by decide)
                    have f106 := hS (13, 106) (by decide)
                    have f107 := hS (14, 107) (by decide)
                    have f108 := hS (15, 108) (by decide)
                    have f109 := hS (16, 109) (by decide)
                    have f110 := hS (17, 110) (by decide)
                    have f111 := hS (18, 111) (by decide)
                    have f112 := hS (19, 112) (by decide)
                    have f113 := hS (20, 113) (by decide)
                    have f114 := hS (21, 114) (by decide)
                    have f115 := hS (22, 115) (by decide)
                    clear hS
                    simp only [tells, List.map_cons, List.map_nil, putSel, if_true]
                    generalize vs 0 = z93 at *
                    generalize vs 1 = z94 at *
                    generalize vs 2 = z95 at *
                    generalize vs 3 = z96 at *
                    generalize vs 4 = z97 at *
                    generalize vs 5 = z98 at *
                    generalize vs 6 = z99 at *
                    generalize vs 7 = z100 at *
                    generalize vs 8 = z101 at *
                    generalize vs 9 = z102 at *
                    generalize vs 10 = z103 at *
                    generalize vs 11 = z104 at *
                    generalize vs 12 = z105 at *
                    generalize vs 13 = z106 at *
                    generalize vs 14 = z107 at *
                    generalize vs 15 = z108 at *
                    generalize vs 16 = z109 at *
                    generalize vs 17 = z110 at *
                    generalize vs 18 = z111 at *
                    generalize vs 19 = z112 at *
                    generalize vs 20 = z113 at *
                    generalize vs 21 = z114 at *
                    generalize vs 22 = z115 at *
                    have f93' : z93 = .pointer (some ⟨R, 0, none⟩) := f93
                    clear f93
                    subst f93'
                    have f94' : z94 = .int .i64 ((b.length : Int) - p2) := f94
                    clear f94
                    subst f94'
                    have f95' : z95 = .int .i64 ((b.length : Int) - p2) := f95
                    clear f95
                    subst f95'
                    have f96' : z96 = .bool false := f96
                    clear f96
                    subst f96'
                    have f97' : z97 = .bool false := f97
                    clear f97
                    subst f97'
                    have f98' : z98 = .pointer (some ⟨R, 0, none⟩) := f98
                    clear f98
                    subst f98'
                    have f99' : z99 = .bool true := f99
                    clear f99
                    subst f99'
                    have f100' : z100 = .pointer (some ⟨WB, 2, none⟩) := f100
                    clear f100
                    subst f100'
                    have f101' : z101 = .bool true := f101
                    clear f101
                    subst f101'
                    have f102' : z102 = .bool false := f102
                    clear f102
                    subst f102'
                    have f103' : z103 = .bool false := f103
                    clear f103
                    subst f103'
                    have f104' : z104 = .bool false := f104
                    clear f104
                    subst f104'
                    have f105' : z105 = .pointer (some ⟨R, 0, none⟩) := f105
                    clear f105
                    subst f105'
                    have f106' : z106 = .bool false := f106
                    clear f106
                    subst f106'
                    have f107' : z107 = .pointer (some ⟨WB, 2, none⟩) := f107
                    clear f107
                    subst f107'
                    have f108' : z108 = .bool true := f108
                    clear f108
                    subst f108'
                    have f109' : z109 = .bool false := f109
                    clear f109
                    subst f109'
                    have f110' : z110 = .bool false := f110
                    clear f110
                    subst f110'
                    have f113' : z113 = .bool false := f113
                    clear f113
                    subst f113'
                    have f114' : z114 = .bool false := f114
                    clear f114
                    subst f114'
                    have f115' : z115 = .bool false := f115
                    clear f115
                    subst f115'
                    simp only [Act.put, List.setIfInBounds_toArray, List.set_cons_zero, List.set_cons_succ]
                    obtain ⟨_, hwE⟩ := hBE
                    subst hwE
                    go_wp2
                    go_roundw
                    case rel => exact ⟨k + 1, p2, true, by omega, HTL.out, by go_num, HR6.out.below ((Below.refl _ _).drew), HQ6.out, HB6.out.drew⟩
                    case measure => simp [intOf]; omega
                · have e0 : (K == 0) = false := by simpa using h0
                  have e1 : (K == 1) = false := by simpa using h1
                  have HTL := Lib.hid hat
                  have hq6 : (wr.alloc (.cells #[.int .i64 K, .int .i64 N] 42)).heap[WB]? = some (.cells #[.slice A b.length c, .int .i64 at_, .bool f] 40) := (Below.heap_alloc _ _ _ hWq).trans HQ.out
                  have HQ6 := Lib.hid hq6
                  have HR6 := Lib.hid (HRq.out.below (alloc_below wr (.cells #[.int .i64 K, .int .i64 N] 42)))
                  have HB6 := Lib.hid (below_step HBq.out (alloc_below wr (.cells #[.int .i64 K, .int .i64 N] 42)))
                  obtain ⟨p2, hp2⟩ : ∃ p2, at_ = p2 := ⟨_, rfl⟩
                  subst hp2
                  clear hq6 h0 h1
                  cases f
                  · go_wp2
                    have HK2 := Lib.hid (cells3 HQ6.out).2.2.1
                    have HWW := Lib.hid (World.block_lt_of_cell? _ _ (cells3 HQ6.out).1)
                    refine free_one (R := R) 1 (fun w' => w' = (wr.alloc (.cells #[.int .i64 K, .int .i64 N] 42)).drew) (n := 23) (T := _) [0, 1, 0, 7, 15, 31, 63, 31, 159, 511, 1023, 2047, 4095, 8191, 4095, 20479, 53247, 131071, 262143, 524287, 1048575, 2097151, 4194303] [(0, 93), (1, 94), (2, 95), (3, 96), (4, 97), (5, 98), (6, 99), (7, 100), (8, 101), (9, 102), (10, 103), (11, 104), (12, 105), (13, 106), (14, 107), (15, 108), (16, 109), (17, 110), (18, 111), (19, 112), (20, 113), (21, 114), (22, 115)] (fun i v w => match i with | 0 => v = .pointer (some ⟨R, 0, none⟩) | 1 => v = .int .i64 ((b.length : Int) - at_) | 2 => v = .int .i64 ((b.length : Int) - at_) | 3 => v = .bool false | 4 => v = .bool false | 5 => v = .pointer (some ⟨R, 0, none⟩) | 6 => v = .bool false | 7 => v = .pointer (some ⟨WB, 2, none⟩) | 8 => v = .bool false | 9 => v = .bool false | 10 => v = .bool false | 11 => v = .bool false | 12 => v = .pointer (some ⟨R, 0, none⟩) | 13 => v = .bool ((b.length : Int) - at_ == 0) | 14 => v = .pointer (some ⟨WB, 2, none⟩) | 15 => v = .bool false | 16 => v = .bool true | 17 => v = .bool true | 18 => v = .int .i64 ((b.length : Int) - at_) | 19 => v = .bool ((b.length : Int) - at_ == 0) | 20 => v = .bool ((b.length : Int) - at_ == 0) | 21 => v = .bool false | 22 => v = .bool false | _ => True) (by kernel_rfl) rfl rfl (by kernel_rfl) (by kernel_rfl) (by kernel_rfl) rfl (by kernel_rfl) ⟨94, by simp⟩ ?_ ?_
                    · intro e he a w hB hel hdep
                      simp only [List.mem_cons, List.not_mem_nil, or_false] at he
                      rcases he with rfl | rfl | rfl | rfl | rfl | rfl | rfl | rfl | rfl | rfl | rfl | rfl | rfl | rfl | rfl | rfl | rfl | rfl | rfl | rfl | rfl | rfl | rfl
                      · have h6 : a.tmps[6]? = some (.pointer (some ⟨R, 0, none⟩)) := (hel 6 (by decide)).trans rfl
                        have e6 : a.eval (.tmp 6) = .pointer (some ⟨R, 0, none⟩) := eval_of h6
                        exact ⟨_, rfl, rfl, Ok.move (wanted_none rfl) (.inl rfl) e6 (fun _ _ => rfl)⟩
                      · obtain ⟨v93, h93, q93⟩ := hdep (0, 93) (by decide) (by decide)
                        obtain rfl : v93 = .pointer (some ⟨R, 0, none⟩) := q93.now
                        replace h93 : a.tmps[93]? = some (.pointer (some ⟨R, 0, none⟩)) := h93
                        have e93 : a.eval (.tmp 93) = .pointer (some ⟨R, 0, none⟩) := eval_of h93
                        obtain rfl : w = (wr.alloc (.cells #[.int .i64 K, .int .i64 N] 42)).drew := hB.2.2.elim id id
                        exact ⟨_, rfl, rfl, Ok.call (T := fun w w' => Tq R w w' ∧ w' = (wr.alloc (.cells #[.int .i64 K, .int .i64 N] 42)).drew) Try.func15 (by kernel_rfl) rfl #[.pointer (some ⟨R, 0, none⟩)] (wanted_none rfl) rfl (by simp [e93]) ((left_o base R (b.drop at_) false _ ((b.length : Int) - at_) (by have := HTL.out; rw [List.length_drop]; omega) (HR6.out.below ((Below.refl _ _).drew))).mono (by rintro e w' ⟨rfl, rfl⟩; exact ⟨_, rfl, fun _ _ => rfl, Tq.refl _ _, rfl⟩))⟩
                      · have h15 : a.tmps[15]? = some (.int .i64 ((b.length : Int) - at_)) := (hel 15 (by decide)).trans rfl
                        have e15 : a.eval (.tmp 15) = .int .i64 ((b.length : Int) - at_) := eval_of h15
                        exact ⟨_, rfl, rfl, Ok.move (wanted_none rfl) (.inl rfl) e15 (fun _ _ => rfl)⟩
                      · obtain ⟨v94, h94, q94⟩ := hdep (1, 94) (by decide) (by decide)
                        obtain rfl : v94 = .int .i64 ((b.length : Int) - at_) := q94.now
                        replace h94 : a.tmps[94]? = some (.int .i64 ((b.length : Int) - at_)) := h94
                        have e94 : a.eval (.tmp 94) = .int .i64 ((b.length : Int) - at_) := eval_of h94
                        obtain ⟨v95, h95, q95⟩ := hdep (2, 95) (by decide) (by decide)
                        obtain rfl : v95 = .int .i64 ((b.length : Int) - at_) := q95.now
                        replace h95 : a.tmps[95]? = some (.int .i64 ((b.length : Int) - at_)) := h95
                        have e95 : a.eval (.tmp 95) = .int .i64 ((b.length : Int) - at_) := eval_of h95
                        exact ⟨_, rfl, rfl, Ok.pure (.bool false) (wanted_none rfl) (by simp only [execOp]; go_simp) (fun _ _ => rfl)⟩
                      · obtain ⟨v96, h96, q96⟩ := hdep (3, 96) (by decide) (by decide)
                        obtain rfl : v96 = .bool false := q96.now
                        replace h96 : a.tmps[96]? = some (.bool false) := h96
                        have e96 : a.eval (.tmp 96) = .bool false := eval_of h96
                        exact ⟨_, rfl, rfl, Ok.move (wanted_none rfl) (.inl rfl) (eval_of h96) q96⟩
                      · obtain ⟨v97, h97, q97⟩ := hdep (4, 97) (by decide) (by decide)
                        obtain rfl : v97 = .bool false := q97.now
                        replace h97 : a.tmps[97]? = some (.bool false) := h97
                        have e97 : a.eval (.tmp 97) = .bool false := eval_of h97
                        have h6 : a.tmps[6]? = some (.pointer (some ⟨R, 0, none⟩)) := (hel 6 (by decide)).trans rfl
                        have e6 : a.eval (.tmp 6) = .pointer (some ⟨R, 0, none⟩) := eval_of h6
                        exact ⟨_, rfl, rfl, Ok.move (wanted_on (t := 97) rfl rfl rfl h97) (.inl rfl) e6 (fun _ _ => rfl)⟩
                      · obtain ⟨v97, h97, q97⟩ := hdep (4, 97) (by decide) (by decide)
                        obtain rfl : v97 = .bool false := q97.now
                        replace h97 : a.tmps[97]? = some (.bool false) := h97
                        have e97 : a.eval (.tmp 97) = .bool false := eval_of h97
                        obtain ⟨v98, h98, q98⟩ := hdep (5, 98) (by decide) (by decide)
                        obtain rfl : v98 = .pointer (some ⟨R, 0, none⟩) := q98.now
                        replace h98 : a.tmps[98]? = some (.pointer (some ⟨R, 0, none⟩)) := h98
                        have e98 : a.eval (.tmp 98) = .pointer (some ⟨R, 0, none⟩) := eval_of h98
                        obtain rfl : w = (wr.alloc (.cells #[.int .i64 K, .int .i64 N] 42)).drew := hB.2.2.elim id id
                        exact ⟨_, rfl, rfl, Ok.call (T := Same) Try.func14 (by kernel_rfl) rfl #[.pointer (some ⟨R, 0, none⟩)] (wanted_on (t := 97) rfl rfl rfl h97) rfl (by simp [e98]) ((failed_n base R (b.drop at_) false _ (HR6.out.below ((Below.refl _ _).drew))).mono (by rintro e w' ⟨rfl, rfl⟩; exact ⟨_, rfl, fun _ _ => rfl, rfl⟩))⟩
                      · obtain ⟨v97, h97, q97⟩ := hdep (4, 97) (by decide) (by decide)
                        obtain rfl : v97 = .bool false := q97.now
                        replace h97 : a.tmps[97]? = some (.bool false) := h97
                        have e97 : a.eval (.tmp 97) = .bool false := eval_of h97
                        have h8 : a.tmps[8]? = some (.pointer (some ⟨WB, 0, none⟩)) := (hel 8 (by decide)).trans rfl
                        have e8 : a.eval (.tmp 8) = .pointer (some ⟨WB, 0, none⟩) := eval_of h8
                        exact ⟨_, rfl, rfl, Ok.pure (.pointer (some ⟨WB, 2, none⟩)) (wanted_on (t := 97) rfl rfl rfl h97) (by simp only [execOp]; go_simp) (fun _ _ => rfl)⟩
                      · obtain ⟨v97, h97, q97⟩ := hdep (4, 97) (by decide) (by decide)
                        obtain rfl : v97 = .bool false := q97.now
                        replace h97 : a.tmps[97]? = some (.bool false) := h97
                        have e97 : a.eval (.tmp 97) = .bool false := eval_of h97
                        obtain ⟨v100, h100, q100⟩ := hdep (7, 100) (by decide) (by decide)
                        obtain rfl : v100 = .pointer (some ⟨WB, 2, none⟩) := q100.now
                        replace h100 : a.tmps[100]? = some (.pointer (some ⟨WB, 2, none⟩)) := h100
                        have e100 : a.eval (.tmp 100) = .pointer (some ⟨WB, 2, none⟩) := eval_of h100
                        have k := (World.grownBy.cell_far hB.1 ⟨WB, 2, none⟩ HWW.out (by simp only [ne_eq, Option.some.injEq]; omega)).trans HK2.out
                        exact ⟨_, rfl, rfl, Ok.pure (.bool false) (wanted_on (t := 97) rfl rfl rfl h97) (by simp only [execOp]; go_simp) (fun _ _ => rfl)⟩
                      · obtain ⟨v97, h97, q97⟩ := hdep (4, 97) (by decide) (by decide)
                        obtain rfl : v97 = .bool false := q97.now
                        replace h97 : a.tmps[97]? = some (.bool false) := h97
                        have e97 : a.eval (.tmp 97) = .bool false := eval_of h97
                        obtain ⟨v99, h99, q99⟩ := hdep (6, 99) (by decide) (by decide)
                        obtain rfl : v99 = .bool false := q99.now
                        replace h99 : a.tmps[99]? = some (.bool false) := h99
                        have e99 : a.eval (.tmp 99) = .bool false := eval_of h99
                        obtain ⟨v101, h101, q101⟩ := hdep (8, 101) (by decide) (by decide)
                        obtain rfl : v101 = .bool false := q101.now
                        replace h101 : a.tmps[101]? = some (.bool false) := h101
                        have e101 : a.eval (.tmp 101) = .bool false := eval_of h101
                        exact ⟨_, rfl, rfl, Ok.pure (.bool false) (wanted_on (t := 97) rfl rfl rfl h97) (by simp only [execOp]; go_simp) (fun _ _ => rfl)⟩
                      · obtain ⟨v97, h97, q97⟩ := hdep (4, 97) (by decide) (by decide)
                        obtain rfl : v97 = .bool false := q97.now
                        replace h97 : a.tmps[97]? = some (.bool false) := h97
                        have e97 : a.eval (.tmp 97) = .bool false := eval_of h97
                        obtain ⟨v102, h102, q102⟩ := hdep (9, 102) (by decide) (by decide)
                        obtain rfl : v102 = .bool false := q102.now
                        replace h102 : a.tmps[102]? = some (.bool false) := h102
                        have e102 : a.eval (.tmp 102) = .bool false := eval_of h102
                        exact ⟨_, rfl, rfl, Ok.pure (.bool false) (wanted_none rfl) (by simp only [execOp]; go_simp) (fun _ _ => rfl)⟩
                      · obtain ⟨v103, h103, q103⟩ := hdep (10, 103) (by decide) (by decide)
                        obtain rfl : v103 = .bool false := q103.now
                        replace h103 : a.tmps[103]? = some (.bool false) := h103
                        have e103 : a.eval (.tmp 103) = .bool false := eval_of h103
                        exact ⟨_, rfl, rfl, Ok.move (wanted_none rfl) (.inl rfl) (eval_of h103) q103⟩
                      · obtain ⟨v104, h104, q104⟩ := hdep (11, 104) (by decide) (by decide)
                        obtain rfl : v104 = .bool false := q104.now
                        replace h104 : a.tmps[104]? = some (.bool false) := h104
                        have e104 : a.eval (.tmp 104) = .bool false := eval_of h104
                        have h6 : a.tmps[6]? = some (.pointer (some ⟨R, 0, none⟩)) := (hel 6 (by decide)).trans rfl
                        have e6 : a.eval (.tmp 6) = .pointer (some ⟨R, 0, none⟩) := eval_of h6
                        exact ⟨_, rfl, rfl, Ok.move (wanted_on (t := 104) rfl rfl rfl h104) (.inl rfl) e6 (fun _ _ => rfl)⟩
                      · obtain ⟨v104, h104, q104⟩ := hdep (11, 104) (by decide) (by decide)
                        obtain rfl : v104 = .bool false := q104.now
                        replace h104 : a.tmps[104]? = some (.bool false) := h104
                        have e104 : a.eval (.tmp 104) = .bool false := eval_of h104
                        obtain ⟨v105, h105, q105⟩ := hdep (12, 105) (by decide) (by decide)
                        obtain rfl : v105 = .pointer (some ⟨R, 0, none⟩) := q105.now
                        replace h105 : a.tmps[105]? = some (.pointer (some ⟨R, 0, none⟩)) := h105
                        have e105 : a.eval (.tmp 105) = .pointer (some ⟨R, 0, none⟩) := eval_of h105
                        obtain rfl : w = (wr.alloc (.cells #[.int .i64 K, .int .i64 N] 42)).drew := hB.2.2.elim id id
                        exact ⟨_, rfl, rfl, Ok.call (T := Same) Try.func16 (by kernel_rfl) rfl #[.pointer (some ⟨R, 0, none⟩)] (wanted_on (t := 104) rfl rfl rfl h104) rfl (by simp [e105]) ((ended_n base R (b.drop at_) false _ ((b.length : Int) - at_ == 0) (HR6.out.below ((Below.refl _ _).drew)) (by rw [drop_empty b at_ HTL.out]; rfl)).mono (by rintro e w' ⟨rfl, rfl⟩; exact ⟨_, rfl, fun _ _ => rfl, rfl⟩))⟩
                      · obtain ⟨v104, h104, q104⟩ := hdep (11, 104) (by decide) (by decide)
                        obtain rfl : v104 = .bool false := q104.now
                        replace h104 : a.tmps[104]? = some (.bool false) := h104
                        have e104 : a.eval (.tmp 104) = .bool false := eval_of h104
                        have h8 : a.tmps[8]? = some (.pointer (some ⟨WB, 0, none⟩)) := (hel 8 (by decide)).trans rfl
                        have e8 : a.eval (.tmp 8) = .pointer (some ⟨WB, 0, none⟩) := eval_of h8
                        exact ⟨_, rfl, rfl, Ok.pure (.pointer (some ⟨WB, 2, none⟩)) (wanted_on (t := 104) rfl rfl rfl h104) (by simp only [execOp]; go_simp) (fun _ _ => rfl)⟩
                      · obtain ⟨v104, h104, q104⟩ := hdep (11, 104) (by decide) (by decide)
                        obtain rfl : v104 = .bool false := q104.now
                        replace h104 : a.tmps[104]? = some (.bool false) := h104
                        have e104 : a.eval (.tmp 104) = .bool false := eval_of h104
                        obtain ⟨v107, h107, q107⟩ := hdep (14, 107) (by decide) (by decide)
                        obtain rfl : v107 = .pointer (some ⟨WB, 2, none⟩) := q107.now
                        replace h107 : a.tmps[107]? = some (.pointer (some ⟨WB, 2, none⟩)) := h107
                        have e107 : a.eval (.tmp 107) = .pointer (some ⟨WB, 2, none⟩) := eval_of h107
                        have k := (World.grownBy.cell_far hB.1 ⟨WB, 2, none⟩ HWW.out (by simp only [ne_eq, Option.some.injEq]; omega)).trans HK2.out
                        exact ⟨_, rfl, rfl, Ok.pure (.bool false) (wanted_on (t := 104) rfl rfl rfl h104) (by simp only [execOp]; go_simp) (fun _ _ => rfl)⟩
                      · obtain ⟨v104, h104, q104⟩ := hdep (11, 104) (by decide) (by decide)
                        obtain rfl : v104 = .bool false := q104.now
                        replace h104 : a.tmps[104]? = some (.bool false) := h104
                        have e104 : a.eval (.tmp 104) = .bool false := eval_of h104
                        obtain ⟨v108, h108, q108⟩ := hdep (15, 108) (by decide) (by decide)
                        obtain rfl : v108 = .bool false := q108.now
                        replace h108 : a.tmps[108]? = some (.bool false) := h108
                        have e108 : a.eval (.tmp 108) = .bool false := eval_of h108
                        exact ⟨_, rfl, rfl, Ok.pure (.bool true) (wanted_on (t := 104) rfl rfl rfl h104) (by simp only [execOp]; go_simp) (fun _ _ => rfl)⟩
                      · obtain ⟨v104, h104, q104⟩ := hdep (11, 104) (by decide) (by decide)
                        obtain rfl : v104 = .bool false := q104.now
                        replace h104 : a.tmps[104]? = some (.bool false) := h104
                        have e104 : a.eval (.tmp 104) = .bool false := eval_of h104
                        obtain ⟨v109, h109, q109⟩ := hdep (16, 109) (by decide) (by decide)
                        obtain rfl : v109 = .bool true := q109.now
                        replace h109 : a.tmps[109]? = some (.bool true) := h109
                        have e109 : a.eval (.tmp 109) = .bool true := eval_of h109
                        exact ⟨_, rfl, rfl, Ok.move (wanted_on (t := 104) rfl rfl rfl h104) (.inl rfl) (eval_of h109) q109⟩
                      · obtain ⟨v110, h110, q110⟩ := hdep (17, 110) (by decide) (by decide)
                        obtain rfl : v110 = .bool true := q110.now
                        replace h110 : a.tmps[110]? = some (.bool true) := h110
                        have e110 : a.eval (.tmp 110) = .bool true := eval_of h110
                        have h15 : a.tmps[15]? = some (.int .i64 ((b.length : Int) - at_)) := (hel 15 (by decide)).trans rfl
                        have e15 : a.eval (.tmp 15) = .int .i64 ((b.length : Int) - at_) := eval_of h15
                        exact ⟨_, rfl, rfl, Ok.move (wanted_on (t := 110) rfl rfl rfl h110) (.inl rfl) e15 (fun _ _ => rfl)⟩
                      · obtain ⟨v110, h110, q110⟩ := hdep (17, 110) (by decide) (by decide)
                        obtain rfl : v110 = .bool true := q110.now
                        replace h110 : a.tmps[110]? = some (.bool true) := h110
                        have e110 : a.eval (.tmp 110) = .bool true := eval_of h110
                        obtain ⟨v111, h111, q111⟩ := hdep (18, 111) (by decide) (by decide)
                        obtain rfl : v111 = .int .i64 ((b.length : Int) - at_) := q111.now
                        replace h111 : a.tmps[111]? = some (.int .i64 ((b.length : Int) - at_)) := h111
                        have e111 : a.eval (.tmp 111) = .int .i64 ((b.length : Int) - at_) := eval_of h111
                        exact ⟨_, rfl, rfl, Ok.pure (.bool ((b.length : Int) - at_ == 0)) (wanted_on (t := 110) rfl rfl rfl h110) (by simp only [execOp]; go_simp) (fun _ _ => rfl)⟩
                      · obtain ⟨v104, h104, q104⟩ := hdep (11, 104) (by decide) (by decide)
                        obtain rfl : v104 = .bool false := q104.now
                        replace h104 : a.tmps[104]? = some (.bool false) := h104
                        have e104 : a.eval (.tmp 104) = .bool false := eval_of h104
                        obtain ⟨v110, h110, q110⟩ := hdep (17, 110) (by decide) (by decide)
                        obtain rfl : v110 = .bool true := q110.now
                        replace h110 : a.tmps[110]? = some (.bool true) := h110
                        have e110 : a.eval (.tmp 110) = .bool true := eval_of h110
                        obtain ⟨v112, h112, q112⟩ := hdep (19, 112) (by decide) (by decide)
                        obtain rfl : v112 = .bool ((b.length : Int) - at_ == 0) := q112.now
                        replace h112 : a.tmps[112]? = some (.bool ((b.length : Int) - at_ == 0)) := h112
                        have e112 : a.eval (.tmp 112) = .bool ((b.length : Int) - at_ == 0) := eval_of h112
                        exact ⟨_, rfl, rfl, Ok.pure (.bool ((b.length : Int) - at_ == 0)) (wanted_on (t := 104) rfl rfl rfl h104) (by simp only [execOp]; go_simp) (fun _ _ => rfl)⟩
                      · obtain ⟨v104, h104, q104⟩ := hdep (11, 104) (by decide) (by decide)
                        obtain rfl : v104 = .bool false := q104.now
                        replace h104 : a.tmps[104]? = some (.bool false) := h104
                        have e104 : a.eval (.tmp 104) = .bool false := eval_of h104
                        obtain ⟨v106, h106, q106⟩ := hdep (13, 106) (by decide) (by decide)
                        obtain rfl : v106 = .bool ((b.length : Int) - at_ == 0) := q106.now
                        replace h106 : a.tmps[106]? = some (.bool ((b.length : Int) - at_ == 0)) := h106
                        have e106 : a.eval (.tmp 106) = .bool ((b.length : Int) - at_ == 0) := eval_of h106
                        obtain ⟨v113, h113, q113⟩ := hdep (20, 113) (by decide) (by decide)
                        obtain rfl : v113 = .bool ((b.length : Int) - at_ == 0) := q113.now
                        replace h113 : a.tmps[113]? = some (.bool ((b.length : Int) - at_ == 0)) := h113
                        have e113 : a.eval (.tmp 113) = .bool ((b.length : Int) - at_ == 0) := eval_of h113
                        exact ⟨_, rfl, rfl, Ok.pure (.bool false) (wanted_on (t := 104) rfl rfl rfl h104) (by simp only [execOp]; go_simp) (fun _ _ => rfl)⟩
                      · obtain ⟨v104, h104, q104⟩ := hdep (11, 104) (by decide) (by decide)
                        obtain rfl : v104 = .bool false := q104.now
                        replace h104 : a.tmps[104]? = some (.bool false) := h104
                        have e104 : a.eval (.tmp 104) = .bool false := eval_of h104
                        obtain ⟨v114, h114, q114⟩ := hdep (21, 114) (by decide) (by decide)
                        obtain rfl : v114 = .bool false := q114.now
                        replace h114 : a.tmps[114]? = some (.bool false) := h114
                        have e114 : a.eval (.tmp 114) = .bool false := eval_of h114
                        exact ⟨_, rfl, rfl, Ok.pure (.bool false) (wanted_none rfl) (by simp only [execOp]; go_simp) (fun _ _ => rfl)⟩
                    intro vs wE hBE hS
                    have f93 := hS (0, 93) (by decide)
                    have f94 := hS (1, 94) (by decide)
                    have f95 := hS (2, 95) (by decide)
                    have f96 := hS (3, 96) (by decide)
                    have f97 := hS (4, 97) (by decide)
                    have f98 := hS (5, 98) (by decide)
                    have f99 := hS (6, 99) (by decide)
                    have f100 := hS (7, 100) (by decide)
                    have f101 := hS (8, 101) (by decide)
                    have f102 := hS (9, 102) (by decide)
                    have f103 := hS (10, 103) (by decide)
                    have f104 := hS (11, 104) (by decide)
                    have f105 := hS (12, 105) (by decide)
                    have f106 := hS (13, 106) (by decide)
                    have f107 := hS (14, 107) (by decide)
                    have f108 := hS (15, 108) (by decide)
                    have f109 := hS (16, 109) (by decide)
                    have f110 := hS (17, 110) (by decide)
                    have f111 := hS (18, 111) (by decide)
                    have f112 := hS (19, 112) (by decide)
                    have f113 := hS (20, 113) (by decide)
                    have f114 := hS (21, 114) (by decide)
                    have f115 := hS (22, 115) (by decide)
                    clear hS
                    simp only [tells, List.map_cons, List.map_nil, putSel, if_true]
                    generalize vs 0 = z93 at *
                    generalize vs 1 = z94 at *
                    generalize vs 2 = z95 at *
                    generalize vs 3 = z96 at *
                    generalize vs 4 = z97 at *
                    generalize vs 5 = z98 at *
                    generalize vs 6 = z99 at *
                    generalize vs 7 = z100 at *
                    generalize vs 8 = z101 at *
                    generalize vs 9 = z102 at *
                    generalize vs 10 = z103 at *
                    generalize vs 11 = z104 at *
                    generalize vs 12 = z105 at *
                    generalize vs 13 = z106 at *
                    generalize vs 14 = z107 at *
                    generalize vs 15 = z108 at *
                    generalize vs 16 = z109 at *
                    generalize vs 17 = z110 at *
                    generalize vs 18 = z111 at *
                    generalize vs 19 = z112 at *
                    generalize vs 20 = z113 at *
                    generalize vs 21 = z114 at *
                    generalize vs 22 = z115 at *
                    have f93' : z93 = .pointer (some ⟨R, 0, none⟩) := f93
                    clear f93
                    subst f93'
                    have f94' : z94 = .int .i64 ((b.length : Int) - at_) := f94
                    clear f94
                    subst f94'
                    have f95' : z95 = .int .i64 ((b.length : Int) - at_) := f95
                    clear f95
                    subst f95'
                    have f96' : z96 = .bool false := f96
                    clear f96
                    subst f96'
                    have f97' : z97 = .bool false := f97
                    clear f97
                    subst f97'
                    have f98' : z98 = .pointer (some ⟨R, 0, none⟩) := f98
                    clear f98
                    subst f98'
                    have f99' : z99 = .bool false := f99
                    clear f99
                    subst f99'
                    have f100' : z100 = .pointer (some ⟨WB, 2, none⟩) := f100
                    clear f100
                    subst f100'
                    have f101' : z101 = .bool false := f101
                    clear f101
                    subst f101'
                    have f102' : z102 = .bool false := f102
                    clear f102
                    subst f102'
                    have f103' : z103 = .bool false := f103
                    clear f103
                    subst f103'
                    have f104' : z104 = .bool false := f104
                    clear f104
                    subst f104'
                    have f105' : z105 = .pointer (some ⟨R, 0, none⟩) := f105
                    clear f105
                    subst f105'
                    have f106' : z106 = .bool ((b.length : Int) - at_ == 0) := f106
                    clear f106
                    subst f106'
                    have f107' : z107 = .pointer (some ⟨WB, 2, none⟩) := f107
                    clear f107
                    subst f107'
                    have f108' : z108 = .bool false := f108
                    clear f108
                    subst f108'
                    have f109' : z109 = .bool true := f109
                    clear f109
                    subst f109'
                    have f110' : z110 = .bool true := f110
                    clear f110
                    subst f110'
                    have f111' : z111 = .int .i64 ((b.length : Int) - at_) := f111
                    clear f111
                    subst f111'
                    have f112' : z112 = .bool ((b.length : Int) - at_ == 0) := f112
                    clear f112
                    subst f112'
                    have f113' : z113 = .bool ((b.length : Int) - at_ == 0) := f113
                    clear f113
                    subst f113'
                    have f114' : z114 = .bool false := f114
                    clear f114
                    subst f114'
                    have f115' : z115 = .bool false := f115
                    clear f115
                    subst f115'
                    simp only [Act.put, List.setIfInBounds_toArray, List.set_cons_zero, List.set_cons_succ]
                    obtain ⟨_, hwE⟩ := hBE
                    subst hwE
                    go_wp2
                    go_roundw
                    case rel => exact ⟨k + 1, at_, false, by omega, HTL.out, by go_num, HR6.out.below ((Below.refl _ _).drew), HQ6.out, HB6.out.drew⟩
                    case measure => simp [intOf]; omega
                  · go_wp2
                    have HK2 := Lib.hid (cells3 HQ6.out).2.2.1
                    have HWW := Lib.hid (World.block_lt_of_cell? _ _ (cells3 HQ6.out).1)
                    refine free_one (R := R) 1 (fun w' => w' = (wr.alloc (.cells #[.int .i64 K, .int .i64 N] 42)).drew) (n := 23) (T := _) [0, 1, 0, 7, 15, 31, 63, 31, 159, 511, 1023, 2047, 4095, 8191, 4095, 20479, 53247, 131071, 262143, 524287, 1048575, 2097151, 4194303] [(0, 93), (1, 94), (2, 95), (3, 96), (4, 97), (5, 98), (6, 99), (7, 100), (8, 101), (9, 102), (10, 103), (11, 104), (12, 105), (13, 106), (14, 107), (15, 108), (16, 109), (17, 110), (18, 111), (19, 112), (20, 113), (21, 114), (22, 115)] (fun i v w => match i with | 0 => v = .pointer (some ⟨R, 0, none⟩) | 1 => v = .int .i64 ((b.length : Int) - at_) | 2 => v = .int .i64 ((b.length : Int) - at_) | 3 => v = .bool false | 4 => v = .bool false | 5 => v = .pointer (some ⟨R, 0, none⟩) | 6 => v = .bool true | 7 => v = .pointer (some ⟨WB, 2, none⟩) | 8 => v = .bool true | 9 => v = .bool false | 10 => v = .bool false | 11 => v = .bool false | 12 => v = .pointer (some ⟨R, 0, none⟩) | 13 => v = .bool false | 14 => v = .pointer (some ⟨WB, 2, none⟩) | 15 => v = .bool true | 16 => v = .bool false | 17 => v = .bool false | 18 => True | 19 => True | 20 => v = .bool false | 21 => v = .bool false | 22 => v = .bool false | _ => True) (by kernel_rfl) rfl rfl (by kernel_rfl) (by kernel_rfl) (by kernel_rfl) rfl (by kernel_rfl) ⟨94, by simp⟩ ?_ ?_
                    · intro e he a w hB hel hdep
                      simp only [List.mem_cons, List.not_mem_nil, or_false] at he
                      rcases he with rfl | rfl | rfl | rfl | rfl | rfl | rfl | rfl | rfl | rfl | rfl | rfl | rfl | rfl | rfl | rfl | rfl | rfl | rfl | rfl | rfl | rfl | rfl
                      · have h6 : a.tmps[6]? = some (.pointer (some ⟨R, 0, none⟩)) := (hel 6 (by decide)).trans rfl
                        have e6 : a.eval (.tmp 6) = .pointer (some ⟨R, 0, none⟩) := eval_of h6
                        exact ⟨_, rfl, rfl, Ok.move (wanted_none rfl) (.inl rfl) e6 (fun _ _ => rfl)⟩
                      · obtain ⟨v93, h93, q93⟩ := hdep (0, 93) (by decide) (by decide)
                        obtain rfl : v93 = .pointer (some ⟨R, 0, none⟩) := q93.now
                        replace h93 : a.tmps[93]? = some (.pointer (some ⟨R, 0, none⟩)) := h93
                        have e93 : a.eval (.tmp 93) = .pointer (some ⟨R, 0, none⟩) := eval_of h93
                        obtain rfl : w = (wr.alloc (.cells #[.int .i64 K, .int .i64 N] 42)).drew := hB.2.2.elim id id
                        exact ⟨_, rfl, rfl, Ok.call (T := fun w w' => Tq R w w' ∧ w' = (wr.alloc (.cells #[.int .i64 K, .int .i64 N] 42)).drew) Try.func15 (by kernel_rfl) rfl #[.pointer (some ⟨R, 0, none⟩)] (wanted_none rfl) rfl (by simp [e93]) ((left_o base R (b.drop at_) true _ ((b.length : Int) - at_) (by have := HTL.out; rw [List.length_drop]; omega) (HR6.out.below ((Below.refl _ _).drew))).mono (by rintro e w' ⟨rfl, rfl⟩; exact ⟨_, rfl, fun _ _ => rfl, Tq.refl _ _, rfl⟩))⟩
                      · have h15 : a.tmps[15]? = some (.int .i64 ((b.length : Int) - at_)) := (hel 15 (by decide)).trans rfl
                        have e15 : a.eval (.tmp 15) = .int .i64 ((b.length : Int) - at_) := eval_of h15
                        exact ⟨_, rfl, rfl, Ok.move (wanted_none rfl) (.inl rfl) e15 (fun _ _ => rfl)⟩
                      · obtain ⟨v94, h94, q94⟩ := hdep (1, 94) (by decide) (by decide)
                        obtain rfl : v94 = .int .i64 ((b.length : Int) - at_) := q94.now
                        replace h94 : a.tmps[94]? = some (.int .i64 ((b.length : Int) - at_)) := h94
                        have e94 : a.eval (.tmp 94) = .int .i64 ((b.length : Int) - at_) := eval_of h94
                        obtain ⟨v95, h95, q95⟩ := hdep (2, 95) (by decide) (by decide)
                        obtain rfl : v95 = .int .i64 ((b.length : Int) - at_) := q95.now
                        replace h95 : a.tmps[95]? = some (.int .i64 ((b.length : Int) - at_)) := h95
                        have e95 : a.eval (.tmp 95) = .int .i64 ((b.length : Int) - at_) := eval_of h95
                        exact ⟨_, rfl, rfl, Ok.pure (.bool false) (wanted_none rfl) (by simp only [execOp]; go_simp) (fun _ _ => rfl)⟩
                      · obtain ⟨v96, h96, q96⟩ := hdep (3, 96) (by decide) (by decide)
                        obtain rfl : v96 = .bool false := q96.now
                        replace h96 : a.tmps[96]? = some (.bool false) := h96
                        have e96 : a.eval (.tmp 96) = .bool false := eval_of h96
                        exact ⟨_, rfl, rfl, Ok.move (wanted_none rfl) (.inl rfl) (eval_of h96) q96⟩
                      · obtain ⟨v97, h97, q97⟩ := hdep (4, 97) (by decide) (by decide)
                        obtain rfl : v97 = .bool false := q97.now
                        replace h97 : a.tmps[97]? = some (.bool false) := h97
                        have e97 : a.eval (.tmp 97) = .bool false := eval_of h97
                        have h6 : a.tmps[6]? = some (.pointer (some ⟨R, 0, none⟩)) := (hel 6 (by decide)).trans rfl
                        have e6 : a.eval (.tmp 6) = .pointer (some ⟨R, 0, none⟩) := eval_of h6
                        exact ⟨_, rfl, rfl, Ok.move (wanted_on (t := 97) rfl rfl rfl h97) (.inl rfl) e6 (fun _ _ => rfl)⟩
                      · obtain ⟨v97, h97, q97⟩ := hdep (4, 97) (by decide) (by decide)
                        obtain rfl : v97 = .bool false := q97.now
                        replace h97 : a.tmps[97]? = some (.bool false) := h97
                        have e97 : a.eval (.tmp 97) = .bool false := eval_of h97
                        obtain ⟨v98, h98, q98⟩ := hdep (5, 98) (by decide) (by decide)
                        obtain rfl : v98 = .pointer (some ⟨R, 0, none⟩) := q98.now
                        replace h98 : a.tmps[98]? = some (.pointer (some ⟨R, 0, none⟩)) := h98
                        have e98 : a.eval (.tmp 98) = .pointer (some ⟨R, 0, none⟩) := eval_of h98
                        obtain rfl : w = (wr.alloc (.cells #[.int .i64 K, .int .i64 N] 42)).drew := hB.2.2.elim id id
                        exact ⟨_, rfl, rfl, Ok.call (T := Same) Try.func14 (by kernel_rfl) rfl #[.pointer (some ⟨R, 0, none⟩)] (wanted_on (t := 97) rfl rfl rfl h97) rfl (by simp [e98]) ((failed_n base R (b.drop at_) true _ (HR6.out.below ((Below.refl _ _).drew))).mono (by rintro e w' ⟨rfl, rfl⟩; exact ⟨_, rfl, fun _ _ => rfl, rfl⟩))⟩
                      · obtain ⟨v97, h97, q97⟩ := hdep (4, 97) (by decide) (by decide)
                        obtain rfl : v97 = .bool false := q97.now
                        replace h97 : a.tmps[97]? = some (.bool false) := h97
                        have e97 : a.eval (.tmp 97) = .bool false := eval_of h97
                        have h8 : a.tmps[8]? = some (.pointer (some ⟨WB, 0, none⟩)) := (hel 8 (by decide)).trans rfl
                        have e8 : a.eval (.tmp 8) = .pointer (some ⟨WB, 0, none⟩) := eval_of h8
                        exact ⟨_, rfl, rfl, Ok.pure (.pointer (some ⟨WB, 2, none⟩)) (wanted_on (t := 97) rfl rfl rfl h97) (by simp only [execOp]; go_simp) (fun _ _ => rfl)⟩
                      · obtain ⟨v97, h97, q97⟩ := hdep (4, 97) (by decide) (by decide)
                        obtain rfl : v97 = .bool false := q97.now
                        replace h97 : a.tmps[97]? = some (.bool false) := h97
                        have e97 : a.eval (.tmp 97) = .bool false := eval_of h97
                        obtain ⟨v100, h100, q100⟩ := hdep (7, 100) (by decide) (by decide)
                        obtain rfl : v100 = .pointer (some ⟨WB, 2, none⟩) := q100.now
                        replace h100 : a.tmps[100]? = some (.pointer (some ⟨WB, 2, none⟩)) := h100
                        have e100 : a.eval (.tmp 100) = .pointer (some ⟨WB, 2, none⟩) := eval_of h100
                        have k := (World.grownBy.cell_far hB.1 ⟨WB, 2, none⟩ HWW.out (by simp only [ne_eq, Option.some.injEq]; omega)).trans HK2.out
                        exact ⟨_, rfl, rfl, Ok.pure (.bool true) (wanted_on (t := 97) rfl rfl rfl h97) (by simp only [execOp]; go_simp) (fun _ _ => rfl)⟩
                      · obtain ⟨v97, h97, q97⟩ := hdep (4, 97) (by decide) (by decide)
                        obtain rfl : v97 = .bool false := q97.now
                        replace h97 : a.tmps[97]? = some (.bool false) := h97
                        have e97 : a.eval (.tmp 97) = .bool false := eval_of h97
                        obtain ⟨v99, h99, q99⟩ := hdep (6, 99) (by decide) (by decide)
                        obtain rfl : v99 = .bool true := q99.now
                        replace h99 : a.tmps[99]? = some (.bool true) := h99
                        have e99 : a.eval (.tmp 99) = .bool true := eval_of h99
                        obtain ⟨v101, h101, q101⟩ := hdep (8, 101) (by decide) (by decide)
                        obtain rfl : v101 = .bool true := q101.now
                        replace h101 : a.tmps[101]? = some (.bool true) := h101
                        have e101 : a.eval (.tmp 101) = .bool true := eval_of h101
                        exact ⟨_, rfl, rfl, Ok.pure (.bool false) (wanted_on (t := 97) rfl rfl rfl h97) (by simp only [execOp]; go_simp) (fun _ _ => rfl)⟩
                      · obtain ⟨v97, h97, q97⟩ := hdep (4, 97) (by decide) (by decide)
                        obtain rfl : v97 = .bool false := q97.now
                        replace h97 : a.tmps[97]? = some (.bool false) := h97
                        have e97 : a.eval (.tmp 97) = .bool false := eval_of h97
                        obtain ⟨v102, h102, q102⟩ := hdep (9, 102) (by decide) (by decide)
                        obtain rfl : v102 = .bool false := q102.now
                        replace h102 : a.tmps[102]? = some (.bool false) := h102
                        have e102 : a.eval (.tmp 102) = .bool false := eval_of h102
                        exact ⟨_, rfl, rfl, Ok.pure (.bool false) (wanted_none rfl) (by simp only [execOp]; go_simp) (fun _ _ => rfl)⟩
                      · obtain ⟨v103, h103, q103⟩ := hdep (10, 103) (by decide) (by decide)
                        obtain rfl : v103 = .bool false := q103.now
                        replace h103 : a.tmps[103]? = some (.bool false) := h103
                        have e103 : a.eval (.tmp 103) = .bool false := eval_of h103
                        exact ⟨_, rfl, rfl, Ok.move (wanted_none rfl) (.inl rfl) (eval_of h103) q103⟩
                      · obtain ⟨v104, h104, q104⟩ := hdep (11, 104) (by decide) (by decide)
                        obtain rfl : v104 = .bool false := q104.now
                        replace h104 : a.tmps[104]? = some (.bool false) := h104
                        have e104 : a.eval (.tmp 104) = .bool false := eval_of h104
                        have h6 : a.tmps[6]? = some (.pointer (some ⟨R, 0, none⟩)) := (hel 6 (by decide)).trans rfl
                        have e6 : a.eval (.tmp 6) = .pointer (some ⟨R, 0, none⟩) := eval_of h6
                        exact ⟨_, rfl, rfl, Ok.move (wanted_on (t := 104) rfl rfl rfl h104) (.inl rfl) e6 (fun _ _ => rfl)⟩
                      · obtain ⟨v104, h104, q104⟩ := hdep (11, 104) (by decide) (by decide)
                        obtain rfl : v104 = .bool false := q104.now
                        replace h104 : a.tmps[104]? = some (.bool false) := h104
                        have e104 : a.eval (.tmp 104) = .bool false := eval_of h104
                        obtain ⟨v105, h105, q105⟩ := hdep (12, 105) (by decide) (by decide)
                        obtain rfl : v105 = .pointer (some ⟨R, 0, none⟩) := q105.now
                        replace h105 : a.tmps[105]? = some (.pointer (some ⟨R, 0, none⟩)) := h105
                        have e105 : a.eval (.tmp 105) = .pointer (some ⟨R, 0, none⟩) := eval_of h105
                        obtain rfl : w = (wr.alloc (.cells #[.int .i64 K, .int .i64 N] 42)).drew := hB.2.2.elim id id
                        exact ⟨_, rfl, rfl, Ok.call (T := Same) Try.func16 (by kernel_rfl) rfl #[.pointer (some ⟨R, 0, none⟩)] (wanted_on (t := 104) rfl rfl rfl h104) rfl (by simp [e105]) ((ended_n base R (b.drop at_) true _ false (HR6.out.below ((Below.refl _ _).drew)) (rfl)).mono (by rintro e w' ⟨rfl, rfl⟩; exact ⟨_, rfl, fun _ _ => rfl, rfl⟩))⟩
                      · obtain ⟨v104, h104, q104⟩ := hdep (11, 104) (by decide) (by decide)
                        obtain rfl : v104 = .bool false := q104.now
                        replace h104 : a.tmps[104]? = some (.bool false) := h104
                        have e104 : a.eval (.tmp 104) = .bool false := eval_of h104
                        have h8 : a.tmps[8]? = some (.pointer (some ⟨WB, 0, none⟩)) := (hel 8 (by decide)).trans rfl
                        have e8 : a.eval (.tmp 8) = .pointer (some ⟨WB, 0, none⟩) := eval_of h8
                        exact ⟨_, rfl, rfl, Ok.pure (.pointer (some ⟨WB, 2, none⟩)) (wanted_on (t := 104) rfl rfl rfl h104) (by simp only [execOp]; go_simp) (fun _ _ => rfl)⟩
                      · obtain ⟨v104, h104, q104⟩ := hdep (11, 104) (by decide) (by decide)
                        obtain rfl : v104 = .bool false := q104.now
                        replace h104 : a.tmps[104]? = some (.bool false) := h104
                        have e104 : a.eval (.tmp 104) = .bool false := eval_of h104
                        obtain ⟨v107, h107, q107⟩ := hdep (14, 107) (by decide) (by decide)
                        obtain rfl : v107 = .pointer (some ⟨WB, 2, none⟩) := q107.now
                        replace h107 : a.tmps[107]? = some (.pointer (some ⟨WB, 2, none⟩)) := h107
                        have e107 : a.eval (.tmp 107) = .pointer (some ⟨WB, 2, none⟩) := eval_of h107
                        have k := (World.grownBy.cell_far hB.1 ⟨WB, 2, none⟩ HWW.out (by simp only [ne_eq, Option.some.injEq]; omega)).trans HK2.out
                        exact ⟨_, rfl, rfl, Ok.pure (.bool true) (wanted_on (t := 104) rfl rfl rfl h104) (by simp only [execOp]; go_simp) (fun _ _ => rfl)⟩
                      · obtain ⟨v104, h104, q104⟩ := hdep (11, 104) (by decide) (by decide)
                        obtain rfl : v104 = .bool false := q104.now
                        replace h104 : a.tmps[104]? = some (.bool false) := h104
                        have e104 : a.eval (.tmp 104) = .bool false := eval_of h104
                        obtain ⟨v108, h108, q108⟩ := hdep (15, 108) (by decide) (by decide)
                        obtain rfl : v108 = .bool true := q108.now
                        replace h108 : a.tmps[108]? = some (.bool true) := h108
                        have e108 : a.eval (.tmp 108) = .bool true := eval_of h108
                        exact ⟨_, rfl, rfl, Ok.pure (.bool false) (wanted_on (t := 104) rfl rfl rfl h104) (by simp only [execOp]; go_simp) (fun _ _ => rfl)⟩
                      · obtain ⟨v104, h104, q104⟩ := hdep (11, 104) (by decide) (by decide)
                        obtain rfl : v104 = .bool false := q104.now
                        replace h104 : a.tmps[104]? = some (.bool false) := h104
                        have e104 : a.eval (.tmp 104) = .bool false := eval_of h104
                        obtain ⟨v109, h109, q109⟩ := hdep (16, 109) (by decide) (by decide)
                        obtain rfl : v109 = .bool false := q109.now
                        replace h109 : a.tmps[109]? = some (.bool false) := h109
                        have e109 : a.eval (.tmp 109) = .bool false := eval_of h109
                        exact ⟨_, rfl, rfl, Ok.move (wanted_on (t := 104) rfl rfl rfl h104) (.inl rfl) (eval_of h109) q109⟩
                      · obtain ⟨v110, h110, q110⟩ := hdep (17, 110) (by decide) (by decide)
                        obtain rfl : v110 = .bool false := q110.now
                        replace h110 : a.tmps[110]? = some (.bool false) := h110
                        have e110 : a.eval (.tmp 110) = .bool false := eval_of h110
                        exact ⟨_, rfl, rfl, Ok.off (wanted_off (t := 110) rfl rfl rfl h110) (fun _ _ => trivial)⟩
                      · obtain ⟨v110, h110, q110⟩ := hdep (17, 110) (by decide) (by decide)
                        obtain rfl : v110 = .bool false := q110.now
                        replace h110 : a.tmps[110]? = some (.bool false) := h110
                        have e110 : a.eval (.tmp 110) = .bool false := eval_of h110
                        exact ⟨_, rfl, rfl, Ok.off (wanted_off (t := 110) rfl rfl rfl h110) (fun _ _ => trivial)⟩
                      · obtain ⟨v104, h104, q104⟩ := hdep (11, 104) (by decide) (by decide)
                        obtain rfl : v104 = .bool false := q104.now
                        replace h104 : a.tmps[104]? = some (.bool false) := h104
                        have e104 : a.eval (.tmp 104) = .bool false := eval_of h104
                        obtain ⟨v110, h110, q110⟩ := hdep (17, 110) (by decide) (by decide)
                        obtain rfl : v110 = .bool false := q110.now
                        replace h110 : a.tmps[110]? = some (.bool false) := h110
                        have e110 : a.eval (.tmp 110) = .bool false := eval_of h110
                        obtain ⟨v112, h112, q112⟩ := hdep (19, 112) (by decide) (by decide)
                        have s112 := q112.now
                        exact ⟨_, rfl, rfl, Ok.pure (.bool false) (wanted_on (t := 104) rfl rfl rfl h104) (by simp only [execOp]; go_simp) (fun _ _ => rfl)⟩
                      · obtain ⟨v104, h104, q104⟩ := hdep (11, 104) (by decide) (by decide)
                        obtain rfl : v104 = .bool false := q104.now
                        replace h104 : a.tmps[104]? = some (.bool false) := h104
                        have e104 : a.eval (.tmp 104) = .bool false := eval_of h104
                        obtain ⟨v106, h106, q106⟩ := hdep (13, 106) (by decide) (by decide)
                        obtain rfl : v106 = .bool false := q106.now
                        replace h106 : a.tmps[106]? = some (.bool false) := h106
                        have e106 : a.eval (.tmp 106) = .bool false := eval_of h106
                        obtain ⟨v113, h113, q113⟩ := hdep (20, 113) (by decide) (by decide)
                        obtain rfl : v113 = .bool false := q113.now
                        replace h113 : a.tmps[113]? = some (.bool false) := h113
                        have e113 : a.eval (.tmp 113) = .bool false := eval_of h113
                        exact ⟨_, rfl, rfl, Ok.pure (.bool false) (wanted_on (t := 104) rfl rfl rfl h104) (by simp only [execOp]; go_simp) (fun _ _ => rfl)⟩
                      · obtain ⟨v104, h104, q104⟩ := hdep (11, 104) (by decide) (by decide)
                        obtain rfl : v104 = .bool false := q104.now
                        replace h104 : a.tmps[104]? = some (.bool false) := h104
                        have e104 : a.eval (.tmp 104) = .bool false := eval_of h104
                        obtain ⟨v114, h114, q114⟩ := hdep (21, 114) (by decide) (by decide)
                        obtain rfl : v114 = .bool false := q114.now
                        replace h114 : a.tmps[114]? = some (.bool false) := h114
                        have e114 : a.eval (.tmp 114) = .bool false := eval_of h114
                        exact ⟨_, rfl, rfl, Ok.pure (.bool false) (wanted_none rfl) (by simp only [execOp]; go_simp) (fun _ _ => rfl)⟩
                    intro vs wE hBE hS
                    have f93 := hS (0, 93) (by decide)
                    have f94 := hS (1, 94) (by decide)
                    have f95 := hS (2, 95) (by decide)
                    have f96 := hS (3, 96) (by decide)
                    have f97 := hS (4, 97) (by decide)
                    have f98 := hS (5, 98) (by decide)
                    have f99 := hS (6, 99) (by decide)
                    have f100 := hS (7, 100) (by decide)
                    have f101 := hS (8, 101) (by decide)
                    have f102 := hS (9, 102) (by decide)
                    have f103 := hS (10, 103) (by decide)
                    have f104 := hS (11, 104) (by decide)
                    have f105 := hS (12, 105) (by decide)
                    have f106 := hS (13, 106) (by decide)
                    have f107 := hS (14, 107) (by decide)
                    have f108 := hS (15, 108) (by decide)
                    have f109 := hS (16, 109) (by decide)
                    have f110 := hS (17, 110) (by decide)
                    have f111 := hS (18, 111) (by decide)
                    have f112 := hS (19, 112) (by decide)
                    have f113 := hS (20, 113) (by decide)
                    have f114 := hS (21, 114) (by decide)
                    have f115 := hS (22, 115) (by decide)
                    clear hS
                    simp only [tells, List.map_cons, List.map_nil, putSel, if_true]
                    generalize vs 0 = z93 at *
                    generalize vs 1 = z94 at *
                    generalize vs 2 = z95 at *
                    generalize vs 3 = z96 at *
                    generalize vs 4 = z97 at *
                    generalize vs 5 = z98 at *
                    generalize vs 6 = z99 at *
                    generalize vs 7 = z100 at *
                    generalize vs 8 = z101 at *
                    generalize vs 9 = z102 at *
                    generalize vs 10 = z103 at *
                    generalize vs 11 = z104 at *
                    generalize vs 12 = z105 at *
                    generalize vs 13 = z106 at *
                    generalize vs 14 = z107 at *
                    generalize vs 15 = z108 at *
                    generalize vs 16 = z109 at *
                    generalize vs 17 = z110 at *
                    generalize vs 18 = z111 at *
                    generalize vs 19 = z112 at *
                    generalize vs 20 = z113 at *
                    generalize vs 21 = z114 at *
                    generalize vs 22 = z115 at *
                    have f93' : z93 = .pointer (some ⟨R, 0, none⟩) := f93
                    clear f93
                    subst f93'
                    have f94' : z94 = .int .i64 ((b.length : Int) - at_) := f94
                    clear f94
                    subst f94'
                    have f95' : z95 = .int .i64 ((b.length : Int) - at_) := f95
                    clear f95
                    subst f95'
                    have f96' : z96 = .bool false := f96
                    clear f96
                    subst f96'
                    have f97' : z97 = .bool false := f97
                    clear f97
                    subst f97'
                    have f98' : z98 = .pointer (some ⟨R, 0, none⟩) := f98
                    clear f98
                    subst f98'
                    have f99' : z99 = .bool true := f99
                    clear f99
                    subst f99'
                    have f100' : z100 = .pointer (some ⟨WB, 2, none⟩) := f100
                    clear f100
                    subst f100'
                    have f101' : z101 = .bool true := f101
                    clear f101
                    subst f101'
                    have f102' : z102 = .bool false := f102
                    clear f102
                    subst f102'
                    have f103' : z103 = .bool false := f103
                    clear f103
                    subst f103'
                    have f104' : z104 = .bool false := f104
                    clear f104
                    subst f104'
                    have f105' : z105 = .pointer (some ⟨R, 0, none⟩) := f105
                    clear f105
                    subst f105'
                    have f106' : z106 = .bool false := f106
                    clear f106
                    subst f106'
                    have f107' : z107 = .pointer (some ⟨WB, 2, none⟩) := f107
                    clear f107
                    subst f107'
                    have f108' : z108 = .bool true := f108
                    clear f108
                    subst f108'
                    have f109' : z109 = .bool false := f109
                    clear f109
                    subst f109'
                    have f110' : z110 = .bool false := f110
                    clear f110
                    subst f110'
                    have f113' : z113 = .bool false := f113
                    clear f113
                    subst f113'
                    have f114' : z114 = .bool false := f114
                    clear f114
                    subst f114'
                    have f115' : z115 = .bool false := f115
                    clear f115
                    subst f115'
                    simp only [Act.put, List.setIfInBounds_toArray, List.set_cons_zero, List.set_cons_succ]
                    obtain ⟨_, hwE⟩ := hBE
                    subst hwE
                    go_wp2
                    go_roundw
                    case rel => exact ⟨k + 1, at_, true, by omega, HTL.out, by go_num, HR6.out.below ((Below.refl _ _).drew), HQ6.out, HB6.out.drew⟩
                    case measure => simp [intOf]; omega
            · obtain rfl : k = l.length := by omega
              go_wp2
              go_ret
              exact ⟨rfl, HBq.out⟩
    · have g2 : (100 : Int) < l.length := by omega
      go_enter Try.func7, Try.ntmps7
      go_wp2_with (go_at_call 9; refine (endsAlive_any _).mono ?_; rintro e w1 ⟨rfl, HB⟩; have HB1 := Lib.hid HB; clear HB)
      go_ret
      exact ⟨rfl, HB1.out⟩
  · have g1 : (500 : Int) < b.length := by omega
    go_enter Try.func7, Try.ntmps7
    go_wp2_with (go_at_call 9; refine (endsAlive_any _).mono ?_; rintro e w1 ⟨rfl, HB⟩; have HB1 := Lib.hid HB; clear HB)
    go_ret
    exact ⟨rfl, HB1.out⟩
end Go.Proofs.Ytkpkkmffcbeigaa
