-- Printed by a program of this session (wip/printx.py), which runs the kit's print with texts of its own put in.
import Derived.Test.YtkiiangookibnaaPRecordApartx0
import Derived.Test.YtkiiangookibnaaPRecordApartx5
import Derived.Test.YtkiiangookibnaaPRecordApartx6
import Derived.Test.YtkiiangookibnaaFreeW
import Derived.Test.YtkiiangookibnaaSh
namespace Go.Proofs.Ytkiiangookibnaa.PRecordApart
open Go.RowKit Go.Proofs.YtkiiangookibnaaW.PrintWords Go.Proofs.YtkiiangookibnaaW.PrintLast Go.Proofs.YtkiiangookibnaaW.PrintMore
attribute [local go_sem] max2_int min2_int max_two min_two max_three min_three max_four min_four   -- for this text's walks alone
set_option linter.unusedVariables false
set_option linter.unusedSimpArgs false

/-! ### record_Bytes: function 8 -/
-- IMPORT Derived.Test.YtkiiangookibnaaSh
-- IMPORT Derived.Test.YtkiiangookibnaaFreeW
/-- put: what doesn't fit leaves all as it is. -/
def wput (k : Nat) (b : List Int) (n : Int) (l : List Int) : Option (List Int) := (ends_Put.f k b n l).bind fun r => some (if r.2 = 0 then r.1 else b)
abbrev rB (v : Value) (xs : List Int) : Res := row (Kd.int .u8) rfl 5 v xs
abbrev wtr (g : Nat) (v : Value) (xs : List Int) : List Res := [blk g [v] 57, rB v xs]
set_option maxHeartbeats 4000000 in
theorem wput_any (k g : Nat) (v : Value) (xs : List Int) (n : Int) (A2 : Option Addr) (n2 c2 : Nat) (l2 r : List Int) (w : World) (h : Hs w (wtr g v xs)) (hn2 : n2 = l2.length) (hr2 : Kd.C (Kd.int .u64) w A2 l2.length l2) (hc2 : l2.length ≤ c2) (hf : wput k xs n l2 = some r) :
    Calls Try.prog 22 #[.pointer (some ⟨g, 0, none⟩), .int .i64 n, .slice A2 n2 c2] w fun e w' => e = .returned (.tuple #[]) ∧ ∃ v', St w (footL (wtr g v xs)) w' (wtr g v' r) := by
  subst hn2
  unfold wput at hf
  cases hp : ends_Put.f k xs n l2 with
  | none => rw [hp] at hf; cases hf
  | some p =>
    obtain ⟨r1, r2⟩ := p
    rw [hp, Option.bind_some] at hf
    have hf := Option.some.inj hf
    have HS := St.start h
    obtain ⟨A, c, hv, hc, hrd⟩ := row_reads h.tail.head
    subst hv
    have c0 := bkCell h.head 0 _ rfl
    have HP := Lib.hid hp
    have HF := Lib.hid hf
    have HR := Lib.hid hrd
    have HR2 := Lib.hid hr2
    clear hp hf hrd hr2
    by_cases h0 : r2 = 0
    · subst h0
      go_enter Try.func22, Try.ntmps22
      go_wp2_with (go_at_call 47; refine (ends_Put.calls k _ _ _ _ _ _ _ r1 _ _ HR.out hc HR2.out hc2 HP.out).mono ?_; rintro e w1 ⟨v0, rfl, ho, hb⟩; obtain ⟨A1, c1, rfl, -, -⟩ := Kd.R_reads ho; have HS1 := HS.made (hE := rfl) hb ho; clear ho hb; have d0 := bkCell (HS1.get (.tail _ (.head _))) 0 _ rfl; have d1 := blk_free (HS1.get (.tail _ (.head _))) 0)
      go_end0
      refine ⟨rfl, .slice A1 r1.length c1, ?_⟩
      have h2 := (HS1.front 1 rfl).set 0 (.slice A1 r1.length c1)
      have e : (if (0 : Int) = 0 then r1 else xs) = r := HF.out
      rw [if_pos rfl] at e
      subst e
      exact St.keeps (R := wtr g _ r1) (L := [_]) h2
    · have g0 : (r2 == 0) = false := by simpa using h0
      go_enter Try.func22, Try.ntmps22
      go_wp2_with (go_at_call 47; refine (ends_Put.calls k _ _ _ _ _ _ _ r1 _ _ HR.out hc HR2.out hc2 HP.out).mono ?_; rintro e w1 ⟨v0, rfl, ho, hb⟩; obtain ⟨A1, c1, rfl, -, -⟩ := Kd.R_reads ho; have HS1 := HS.made (hE := rfl) hb ho; clear ho hb; have d0 := bkCell (HS1.get (.tail _ (.head _))) 0 _ rfl; have d1 := blk_free (HS1.get (.tail _ (.head _))) 0)
      go_end0
      refine ⟨rfl, .slice A xs.length c, ?_⟩
      have e : (if r2 = 0 then r1 else xs) = r := HF.out
      rw [if_neg h0] at e
      subst e
      exact HS1.drop
set_option maxHeartbeats 4000000 in
theorem wlab_any (k g : Nat) (v : Value) (xs : List Int) (A2 : Option Addr) (n2 c2 : Nat) (l2 : List (S28)) (r : List Int) (w : World) (h : Hs w (wtr g v xs)) (hn2 : n2 = l2.length) (hr2 : Kd.C k28 w A2 l2.length l2) (hc2 : l2.length ≤ c2) (hf : label_Put.f k xs l2 = some r) :
    Calls Try.prog 25 #[.pointer (some ⟨g, 0, none⟩), .slice A2 n2 c2] w fun e w' => e = .returned (.tuple #[]) ∧ ∃ v', St w (footL (wtr g v xs)) w' (wtr g v' r) := by
  subst hn2
  have HS := St.start h
  obtain ⟨A, c, hv, hc, hrd⟩ := row_reads h.tail.head
  subst hv
  have c0 := bkCell h.head 0 _ rfl
  have HP := Lib.hid hf
  have HR := Lib.hid hrd
  have HR2 := Lib.hid hr2
  clear hf hrd hr2
  go_enter Try.func25, Try.ntmps25
  go_wp2_with (go_at_call 48; refine (label_Put.calls k _ _ _ _ _ _ r _ HR.out hc HR2.out hc2 HP.out).mono ?_; rintro e w1 ⟨v0, rfl, ho, hb⟩; obtain ⟨A1, c1, rfl, -, -⟩ := Kd.R_reads ho; have HS1 := HS.made (hE := rfl) hb ho; clear ho hb; have d0 := bkCell (HS1.get (.tail _ (.head _))) 0 _ rfl; have d1 := blk_free (HS1.get (.tail _ (.head _))) 0)
  go_end0
  refine ⟨rfl, .slice A1 r.length c1, ?_⟩
  have h2 := (HS1.front 1 rfl).set 0 (.slice A1 r.length c1)
  exact St.keeps (R := wtr g _ r) (L := [_]) h2
section
variable {w0 W : World} {F : Nat → Prop} {L : List Res} {g : Nat} {v : Value} {xs : List Int}
theorem put1 (gl : Nat) (hgl : gl = W.heap.size) (HS : St w0 F W (blk g [v] 57 :: rB v xs :: L)) (k n2 c2 : Nat) (n : Int) (l2 r : List Int) (hn : n2 = l2.length) (hc : c2 = l2.length) (hm : l2.length ≤ 9223372036854775807) (hf : wput k xs n l2 = some r) :
    Calls Try.prog 22 #[.pointer (some ⟨g, 0, none⟩), .int .i64 n, .slice (some ⟨gl, 0, none⟩) n2 c2] (W.alloc (.cells (nums .u64 l2).toArray 30)) fun e w' => e = .returned (.tuple #[]) ∧ ∃ v', St w0 F w' (blk g [v'] 57 :: rB v' r :: L) := by
  subst hn hc hgl
  have h1 := HS.ints .u64 30 l2 hm
  obtain ⟨A, c, hv, hc, hrd⟩ := row_reads h1.hs.head
  obtain ⟨rfl, -, rfl⟩ : some ⟨W.heap.size, 0, none⟩ = A ∧ True ∧ l2.length = c := by injection hv with a b c; exact ⟨a, trivial, c⟩
  have h2 := ((h1.front 2 rfl).front 2 rfl)
  refine (wput_any k g v xs n _ _ _ l2 r _ (h2.hs.left (R := wtr g v xs)) rfl hrd (Nat.le_refl _) hf).mono ?_
  rintro e w' ⟨rfl, v', hs⟩
  exact ⟨rfl, v', ((h2.call (R := wtr g v xs) (R' := wtr g v' r) hs).front 2 rfl).drop⟩
theorem lab1 (gl : Nat) (hgl : gl = W.heap.size) (HS : St w0 F W (blk g [v] 57 :: rB v xs :: L)) (k n2 c2 : Nat) (l2 : List S28) (r : List Int) (inner : List Value) (hrep : Reps (k28.M W W.heap.size (fun _ => False)) 2 l2 inner) (hn : n2 = l2.length) (hc : c2 = l2.length) (hm : l2.length ≤ 9223372036854775807) (hf : label_Put.f k xs l2 = some r) :
    Calls Try.prog 25 #[.pointer (some ⟨g, 0, none⟩), .slice (some ⟨gl, 0, none⟩) n2 c2] (W.alloc (.cells inner.toArray 28)) fun e w' => e = .returned (.tuple #[]) ∧ ∃ v', St w0 F w' (blk g [v'] 57 :: rB v' r :: L) := by
  subst hn hc hgl
  have h1 := HS.lit k28 rfl 28 l2 inner hrep hm
  obtain ⟨A, c, hv, hc, hrd⟩ := row_reads h1.hs.head
  obtain ⟨rfl, -, rfl⟩ : some ⟨W.heap.size, 0, none⟩ = A ∧ True ∧ l2.length = c := by injection hv with a b c; exact ⟨a, trivial, c⟩
  have h2 := ((h1.front 2 rfl).front 2 rfl)
  refine (wlab_any k g v xs _ _ _ l2 r _ (h2.hs.left (R := wtr g v xs)) rfl hrd (Nat.le_refl _) hf).mono ?_
  rintro e w' ⟨rfl, v', hs⟩
  exact ⟨rfl, v', ((h2.call (R := wtr g v xs) (R' := wtr g v' r) hs).front 2 rfl).drop⟩
end
theorem lab_reps1 (w : World) (base : Nat) (a b : Int) : Reps (k28.M w base (fun _ => False)) 2 [⟨a, b⟩] [.int .u32 a, .int .u32 b] :=
  (Reps.none _ _).snoc (p := (⟨a, b⟩ : S28)) (k28_mkM _ _ _ _) rfl
theorem lab_reps2 (w : World) (base : Nat) (a b c d : Int) : Reps (k28.M w base (fun _ => False)) 2 [⟨a, b⟩, ⟨c, d⟩] [.int .u32 a, .int .u32 b, .int .u32 c, .int .u32 d] :=
  (lab_reps1 w base a b).snoc (p := (⟨c, d⟩ : S28)) (k28_mkM _ _ _ _) rfl
def flagB (b : Bool) : Int := if b = true then 1 else 0
theorem flag_f (b : Bool) : record_flag.f b = some (flagB b) := by unfold record_flag.f flagB; split <;> rfl
def upP (p : Int) : Int := IntKind.u64.wrap (wrap64 (p + 1))
theorem up_f (p : Int) : record_up.f p = some (upP p) := rfl
theorem up_same (p : Int) (w : World) : Calls Try.prog 24 #[.int .i64 p] w fun e w' => e = .returned (.int .u64 (upP p)) ∧ w' = w := by
  go_enter Try.func24, Try.ntmps24
  go_wp2_with fail
  go_ret
  exact ⟨rfl, rfl⟩
def uw (x : Int) : Int := IntKind.u64.wrap x
def rbl (k : Nat) : List Int → List S48 → Option (List Int)
  | b, [] => some b
  | b, x :: l => (label_Put.f k b [x.f0]).bind fun b1 => (wput k b1 1 [upP x.f1]).bind fun b2 => (wput k b2 4 [uw x.f2]).bind fun b3 => rbl k b3 l
def rbytes (k : Nat) (a0_0 : Int) (a0_1 : Bool) (a0_2 : Int) (a0_3 : Int) (a0_4 : Int) (a0_5 : Int) (a0_6 : Int) (l0_7 : List (S48)) (a0_8 : Int) (a0_9 : Int) (a0_10 : Int) (a0_11 : Int) (a0_12 : Int) (a0_13 : Int) (a0_14 : Int) (a0_15 : Int) : Option (List Int) :=
  (wput k [] 4 [uw a0_0]).bind fun b1 => (wput k b1 1 [flagB a0_1]).bind fun b2 => (wput k b2 4 [uw a0_2, uw a0_3]).bind fun b3 => (wput k b3 1 [upP a0_4]).bind fun b4 => (label_Put.f k b4 [⟨a0_5, a0_6⟩]).bind fun b5 => (wput k b5 1 [uw l0_7.length]).bind fun b6 => (rbl k b6 l0_7).bind fun b7 => (wput k b7 8 [a0_8]).bind fun b8 => (label_Put.f k b8 [⟨a0_9, a0_10⟩, ⟨a0_11, a0_12⟩]).bind fun b9 => wput k b9 1 [uw a0_13, uw a0_14, upP a0_15]
theorem rbytes_steps {k : Nat} {a0_0 : Int} {a0_1 : Bool} {a0_2 a0_3 a0_4 a0_5 a0_6 : Int} {l0_7 : List (S48)} {a0_8 a0_9 a0_10 a0_11 a0_12 a0_13 a0_14 a0_15 : Int} {bb : List Int} (h : rbytes k a0_0 a0_1 a0_2 a0_3 a0_4 a0_5 a0_6 l0_7 a0_8 a0_9 a0_10 a0_11 a0_12 a0_13 a0_14 a0_15 = some bb) :
    ∃ b1 b2 b3 b4 b5 b6 b7 b8 b9, wput k [] 4 [uw a0_0] = some b1 ∧ wput k b1 1 [flagB a0_1] = some b2 ∧ wput k b2 4 [uw a0_2, uw a0_3] = some b3 ∧ wput k b3 1 [upP a0_4] = some b4 ∧ label_Put.f k b4 [⟨a0_5, a0_6⟩] = some b5 ∧ wput k b5 1 [uw l0_7.length] = some b6 ∧ rbl k b6 l0_7 = some b7 ∧ wput k b7 8 [a0_8] = some b8 ∧ label_Put.f k b8 [⟨a0_9, a0_10⟩, ⟨a0_11, a0_12⟩] = some b9 ∧ wput k b9 1 [uw a0_13, uw a0_14, upP a0_15] = some bb := by
  unfold rbytes at h
  obtain ⟨b1, h1, h⟩ := Option.bind_eq_some_iff.1 h
  obtain ⟨b2, h2, h⟩ := Option.bind_eq_some_iff.1 h
  obtain ⟨b3, h3, h⟩ := Option.bind_eq_some_iff.1 h
  obtain ⟨b4, h4, h⟩ := Option.bind_eq_some_iff.1 h
  obtain ⟨b5, h5, h⟩ := Option.bind_eq_some_iff.1 h
  obtain ⟨b6, h6, h⟩ := Option.bind_eq_some_iff.1 h
  obtain ⟨b7, h7, h⟩ := Option.bind_eq_some_iff.1 h
  obtain ⟨b8, h8, h⟩ := Option.bind_eq_some_iff.1 h
  obtain ⟨b9, h9, h⟩ := Option.bind_eq_some_iff.1 h
  exact ⟨b1, b2, b3, b4, b5, b6, b7, b8, b9, h1, h2, h3, h4, h5, h6, h7, h8, h9, h⟩
def record_Bytes.f (k : Nat) (a0_0 : Int) (a0_1 : Bool) (a0_2 : Int) (a0_3 : Int) (a0_4 : Int) (a0_5 : Int) (a0_6 : Int) (l0_7 : List (S48)) (a0_8 : Int) (a0_9 : Int) (a0_10 : Int) (a0_11 : Int) (a0_12 : Int) (a0_13 : Int) (a0_14 : Int) (a0_15 : Int) : Option (List Int × Int) :=
  (record_Right.f k a0_0 a0_1 a0_2 a0_3 a0_4 a0_5 a0_6 l0_7 a0_8 a0_9 a0_10 a0_11 a0_12 a0_13 a0_14 a0_15).bind fun t => if t = true then (rbytes k a0_0 a0_1 a0_2 a0_3 a0_4 a0_5 a0_6 l0_7 a0_8 a0_9 a0_10 a0_11 a0_12 a0_13 a0_14 a0_15).bind fun b => some (b, 0) else some (([] : List Int), 141)
theorem wput_mono (b : List Int) (n : Int) (l : List Int) (k : Nat) : LeO (wput k b n l) (wput (k + 1) b n l) := LeO.bind (ends_Put.mono _ _ _ _) (fun _ => LeO.refl _)
theorem rbl_mono (k : Nat) : ∀ (l : List S48) (b : List Int), LeO (rbl k b l) (rbl (k + 1) b l)
  | [], b => LeO.refl _
  | x :: l, b => LeO.bind (label_Put.mono _ _ _) (fun _ => LeO.bind (wput_mono _ _ _ _) (fun _ => LeO.bind (wput_mono _ _ _ _) (fun _ => rbl_mono k l _)))
theorem rbytes_mono (k : Nat) (a0_0 : Int) (a0_1 : Bool) (a0_2 : Int) (a0_3 : Int) (a0_4 : Int) (a0_5 : Int) (a0_6 : Int) (l0_7 : List (S48)) (a0_8 : Int) (a0_9 : Int) (a0_10 : Int) (a0_11 : Int) (a0_12 : Int) (a0_13 : Int) (a0_14 : Int) (a0_15 : Int) : LeO (rbytes k a0_0 a0_1 a0_2 a0_3 a0_4 a0_5 a0_6 l0_7 a0_8 a0_9 a0_10 a0_11 a0_12 a0_13 a0_14 a0_15) (rbytes (k + 1) a0_0 a0_1 a0_2 a0_3 a0_4 a0_5 a0_6 l0_7 a0_8 a0_9 a0_10 a0_11 a0_12 a0_13 a0_14 a0_15) := by
  unfold rbytes
  repeat' first
    | exact wput_mono _ _ _ _
    | exact rbl_mono _ _ _
    | exact label_Put.mono _ _ _
    | refine LeO.bind ?_ (fun _ => ?_)
theorem record_Bytes.mono : ∀ a0 a1 a2 a3 a4 a5 a6 a7 a8 a9 a10 a11 a12 a13 a14 a15 k, LeO (record_Bytes.f k a0 a1 a2 a3 a4 a5 a6 a7 a8 a9 a10 a11 a12 a13 a14 a15) (record_Bytes.f (k + 1) a0 a1 a2 a3 a4 a5 a6 a7 a8 a9 a10 a11 a12 a13 a14 a15) := by
  intro a0 a1 a2 a3 a4 a5 a6 a7 a8 a9 a10 a11 a12 a13 a14 a15 k
  unfold record_Bytes.f
  refine LeO.bind (record_Right.mono _ _ _ _ _ _ _ _ _ _ _ _ _ _ _ _ _) (fun t => ?_)
  refine LeO.ite ?_ (LeO.refl _)
  exact LeO.bind (rbytes_mono _ _ _ _ _ _ _ _ _ _ _ _ _ _ _ _ _) (fun _ => LeO.refl _)
set_option maxHeartbeats 8000000 in
set_option maxRecDepth 100000 in
theorem record_Bytes.calls (k : Nat) (a0_0 : Int) (a0_1 : Bool) (a0_2 : Int) (a0_3 : Int) (a0_4 : Int) (a0_5 : Int) (a0_6 : Int) (A0_7 : Option Addr) (c0_7 : Nat) (l0_7 : List (S48)) (a0_8 : Int) (a0_9 : Int) (a0_10 : Int) (a0_11 : Int) (a0_12 : Int) (a0_13 : Int) (a0_14 : Int) (a0_15 : Int) (r1 : List Int) (r2 : Int) (w : World) (hr0_7 : Kd.C k48 w A0_7 l0_7.length l0_7) (hc0_7 : l0_7.length ≤ c0_7) (h : record_Bytes.f k a0_0 a0_1 a0_2 a0_3 a0_4 a0_5 a0_6 l0_7 a0_8 a0_9 a0_10 a0_11 a0_12 a0_13 a0_14 a0_15 = some (r1, r2)) :
    Calls Try.prog 8 #[.agg #[.int .u32 a0_0, .bool a0_1, .int .u32 a0_2, .int .u32 a0_3, .int .i64 a0_4, .int .u32 a0_5, .int .u32 a0_6, .slice A0_7 l0_7.length c0_7, .int .u64 a0_8, .int .u32 a0_9, .int .u32 a0_10, .int .u32 a0_11, .int .u32 a0_12, .int .i64 a0_13, .int .i64 a0_14, .int .i64 a0_15]] w fun e w' => ∃ v0_ : Value, e = .returned (.tuple #[v0_, .int .i64 r2]) ∧ Kd.R (Kd.int .u8) 5 w' w.heap.size (fun _ => True) v0_ r1 ∧ Below w.heap.size w w' := by
  unfold record_Bytes.f at h
  obtain ⟨t, ht, h'⟩ := Option.bind_eq_some_iff.1 h
  clear h
  have h := h'
  clear h'
  have HT := Lib.hid ht
  have HR := Lib.hid hr0_7
  have HC := Lib.hid hc0_7
  clear ht hr0_7 hc0_7
  cases t with
  | false =>
    obtain ⟨rfl, rfl⟩ : ([] : List Int) = r1 ∧ (141 : Int) = r2 := by simpa using h
    clear h
    go_enter Try.func8, Try.ntmps8
    go_wp2_with (go_at_call 14; refine (record_Right.calls k _ _ _ _ _ _ _ _ _ _ _ _ _ _ _ _ _ _ _ _ (Kd.C_below HR.out (below_alloc (Below.refl _ _) _)) HC.out HT.out).mono ?_; rintro e w1 ⟨rfl, hb⟩; have HB := Lib.hid hb; clear hb)
    go_ret2
    exact ⟨_, rfl, Kd.R_nil _ _ _ _ _, below_step (below_alloc (Below.refl _ w) _) HB.out⟩
  | true =>
    rw [if_pos rfl] at h
    obtain ⟨bb, hbb, h2⟩ := Option.bind_eq_some_iff.1 h
    obtain ⟨rfl, rfl⟩ : bb = r1 ∧ (0 : Int) = r2 := by simpa using h2
    clear h h2
    obtain ⟨b1, b2, b3, b4, b5, b6, b7, b8, b9, h1, h2, h3, h4, h5, h6, h7, h8, h9, h10⟩ := rbytes_steps hbb
    have H1 := Lib.hid h1
    have H2 := Lib.hid h2
    have H3 := Lib.hid h3
    have H4 := Lib.hid h4
    have H5 := Lib.hid h5
    have H6 := Lib.hid h6
    have H7 := Lib.hid h7
    have H8 := Lib.hid h8
    have H9 := Lib.hid h9
    have H10 := Lib.hid h10
    clear h1 h2 h3 h4 h5 h6 h7 h8 h9 h10 hbb
    have HS0 := (St.empty w).alloc [.int .u32 a0_0, .bool a0_1, .int .u32 a0_2, .int .u32 a0_3, .int .i64 a0_4, .int .u32 a0_5, .int .u32 a0_6, .slice A0_7 l0_7.length c0_7, .int .u64 a0_8, .int .u32 a0_9, .int .u32 a0_10, .int .u32 a0_11, .int .u32 a0_12, .int .i64 a0_13, .int .i64 a0_14, .int .i64 a0_15] 34
    go_enter Try.func8, Try.ntmps8
    go_wp2_with (go_at_call 14; refine (record_Right.calls k _ _ _ _ _ _ _ _ _ _ _ _ _ _ _ _ _ _ _ _ (Kd.C_below HR.out (below_alloc (Below.refl _ _) _)) HC.out HT.out).mono ?_; rintro e w1 ⟨rfl, hb⟩; have HS := HS0.below hb; have hlt := blk_size (HS.get (.head _)); have hne := Nat.ne_of_lt hlt; clear hb HS0; have c0 := bkCell (HS.get (.head _)) 0 _ rfl)
    refine (put1 (w1.heap.size + 1) (by simp) (((HS.alloc [.slice none 0 0] 57).nil (Kd.int .u8) rfl 5).front 1 rfl) k 1 1 4 [uw a0_0] b1 rfl rfl (by simp) H1.out).mono ?_
    rintro e w2 ⟨rfl, v2, HSn⟩
    clear HS c0
    have HS := HSn
    clear HSn
    clear hlt hne
    have c1 := bkCell (HS.get (.tail _ (.tail _ (.head _)))) 1 _ rfl
    go_wp2_with (go_at_call 23; refine (record_flag.calls _ _ _ (flag_f a0_1)).mono ?_; rintro e w' ⟨rfl, ⟨⟨nd, rfl⟩⟩⟩)
    replace HS := HS.below (pw_below_drewN (Below.refl _ _) nd)
    refine (put1 _ rfl HS k 1 1 1 [flagB a0_1] b2 rfl rfl (by simp) H2.out).mono ?_
    rintro e w3 ⟨rfl, v3, HSn⟩
    clear HS c1
    have HS := HSn
    clear HSn
    have c2 := bkCell (HS.get (.tail _ (.tail _ (.head _)))) 2 _ rfl
    have c3 := bkCell (HS.get (.tail _ (.tail _ (.head _)))) 3 _ rfl
    go_wp2_with fail
    refine (put1 _ rfl HS k 2 2 4 [uw a0_2, uw a0_3] b3 rfl rfl (by simp) H3.out).mono ?_
    rintro e w4 ⟨rfl, v4, HSn⟩
    clear HS c2 c3
    have HS := HSn
    clear HSn
    have c4 := bkCell (HS.get (.tail _ (.tail _ (.head _)))) 4 _ rfl
    go_wp2_with (go_at_call 24; refine (record_up.calls _ _ _ (up_f a0_4)).mono ?_; rintro e w' ⟨rfl, ⟨⟨nd2, rfl⟩⟩⟩)
    replace HS := HS.below (pw_below_drewN (Below.refl _ _) nd2)
    refine (put1 _ rfl HS k 1 1 1 [upP a0_4] b4 rfl rfl (by simp) H4.out).mono ?_
    rintro e w5 ⟨rfl, v5, HSn⟩
    clear HS c4
    have HS := HSn
    clear HSn
    have c5 := bkCell (HS.get (.tail _ (.tail _ (.head _)))) 5 _ rfl
    have c6 := bkCell (HS.get (.tail _ (.tail _ (.head _)))) 6 _ rfl
    go_wp2_with fail
    refine (lab1 _ rfl HS k 1 1 [⟨a0_5, a0_6⟩] b5 _ (lab_reps1 _ _ _ _) rfl rfl (by simp) H5.out).mono ?_
    rintro e w6 ⟨rfl, v6, HSn⟩
    clear HS c5 c6
    have HS := HSn
    clear HSn
    have c7 := bkCell (HS.get (.tail _ (.tail _ (.head _)))) 7 _ rfl
    go_wp2_with fail
    refine (put1 _ rfl HS k 1 1 1 [uw l0_7.length] b6 rfl rfl (by simp) H6.out).mono ?_
    rintro e w7 ⟨rfl, v7, HSn⟩
    clear HS c7
    have HS := HSn
    clear HSn
    have c7 := bkCell (HS.get (.tail _ (.tail _ (.head _)))) 7 _ rfl
    go_wp2_with fail
    generalize hG : w1.heap.size = G at HS ⊢
    obtain ⟨cs, hcs⟩ : ∃ cs : List Value, cs = [.int .u32 a0_0, .bool a0_1, .int .u32 a0_2, .int .u32 a0_3, .int .i64 a0_4, .int .u32 a0_5, .int .u32 a0_6, .slice A0_7 l0_7.length c0_7, .int .u64 a0_8, .int .u32 a0_9, .int .u32 a0_10, .int .u32 a0_11, .int .u32 a0_12, .int .i64 a0_13, .int .i64 a0_14, .int .i64 a0_15] := ⟨_, rfl⟩
    rw [← hcs] at HS
    have HCS := Lib.hid hcs
    have HL := Lib.hid HR.out.2.1
    clear c7 hG hcs
    go_loopw [54] (fun i wr => ∃ (j : Nat) (v : Value) (b : List Int), j ≤ l0_7.length ∧ i = .int .i64 (j : Int) ∧ St w (fun _ => False) wr [blk G [v] 57, rB v b, blk w.heap.size cs 34] ∧ Hid (rbl k b (l0_7.drop j) = some b7)) (fun i _ => l0_7.length - (intOf i).toNat)
    case atStart => exact ⟨0, v7, b6, Nat.zero_le _, rfl, HS, H7.out⟩
    case round =>
      obtain ⟨j, v, b, hj, rfl, HSr, Hb⟩ := hrel
      clear HS
      by_cases hlt : j < l0_7.length
      · have hx : l0_7.drop j = l0_7[j] :: l0_7.drop (j + 1) := List.drop_eq_getElem_cons hlt
        obtain ⟨ad, e, p0, p1, p2, p3⟩ := at_T48 (Kd.C_below HR.out HSr.belowOf) (j : Int) (by omega) (by omega)
        subst e
        have e2 : rd_T48 l0_7 (j : Int) = l0_7[j] := by unfold rd_T48; rw [List.getD_eq_getElem?_getD, Int.toNat_natCast, List.getElem?_eq_getElem hlt]; rfl
        rw [e2] at p0 p1 p2 p3
        rw [Int.toNat_natCast] at p0 p1 p2 p3
        have hb0 := Hb.out
        rw [hx] at hb0
        generalize l0_7[j] = x at hb0 p0 p1 p2 p3
        unfold rbl at hb0
        obtain ⟨d1, g1, hb1⟩ := Option.bind_eq_some_iff.1 hb0
        obtain ⟨d2, g2, hb2⟩ := Option.bind_eq_some_iff.1 hb1
        obtain ⟨d3, g3, hb3⟩ := Option.bind_eq_some_iff.1 hb2
        have G1 := Lib.hid g1
        have G2 := Lib.hid g2
        have G3 := Lib.hid g3
        have G4 := Lib.hid hb3
        clear hb0 hb1 hb2 hb3 g1 g2 g3 e2 hx Hb
        go_wp2_with fail
        refine (lab1 (wr.heap.size + 1) (by simp) (((HSr.alloc [.int .u32 x.f0.f0, .int .u32 x.f0.f1, .int .i64 x.f1, .int .u32 x.f2] 48).front 2 rfl).front 2 rfl) k 1 1 [x.f0] d1 _ (lab_reps1 _ _ _ _) rfl rfl (by simp) G1.out).mono ?_
        rintro e w8 ⟨rfl, v8, HS⟩
        clear p0 p1 p2 p3 HSr
        have c1 := bkCell (HS.get (.tail _ (.tail _ (.head _)))) 2 _ rfl
        go_wp2_with (go_at_call 24; refine (record_up.calls _ _ _ (up_f x.f1)).mono ?_; rintro e w' ⟨rfl, ⟨⟨nd3, rfl⟩⟩⟩)
        replace HS := HS.below (pw_below_drewN (Below.refl _ _) nd3)
        refine (put1 _ rfl HS k 1 1 1 [upP x.f1] d2 rfl rfl (by simp) G2.out).mono ?_
        rintro e w9 ⟨rfl, v9, HSn⟩
        clear HS c1
        have c1 := bkCell (HSn.get (.tail _ (.tail _ (.head _)))) 3 _ rfl
        go_wp2_with fail
        refine (put1 _ rfl HSn k 1 1 4 [uw x.f2] d3 rfl rfl (by simp) G3.out).mono ?_
        rintro e w10 ⟨rfl, v10, HSo⟩
        clear HSn c1
        have hL := HL.out
        go_wp2_with fail
        go_roundw
        case rel => exact ⟨j + 1, v10, d3, by omega, by go_num, (HSo.front 2 rfl).drop, G4⟩
        case measure => simp [intOf]; omega
      · obtain rfl : j = l0_7.length := by omega
        have hb7 : b = b7 := by
          have := Hb.out
          rw [List.drop_length] at this
          exact Option.some.inj this
        subst hb7
        rw [HCS.out] at HSr
        clear Hb
        have c8 := bkCell (HSr.get (.tail _ (.tail _ (.head _)))) 8 _ rfl
        go_wp2_with fail
        refine (put1 _ rfl HSr k 1 1 8 [a0_8] b8 rfl rfl (by simp) H8.out).mono ?_
        rintro e w11 ⟨rfl, v11, HS⟩
        clear HSr c8
        have c9 := bkCell (HS.get (.tail _ (.tail _ (.head _)))) 9 _ rfl
        have c10 := bkCell (HS.get (.tail _ (.tail _ (.head _)))) 10 _ rfl
        have c11 := bkCell (HS.get (.tail _ (.tail _ (.head _)))) 11 _ rfl
        have c12 := bkCell (HS.get (.tail _ (.tail _ (.head _)))) 12 _ rfl
        go_wp2_with fail
        refine (lab1 _ rfl HS k 2 2 [⟨a0_9, a0_10⟩, ⟨a0_11, a0_12⟩] b9 _ (lab_reps2 _ _ _ _ _ _) rfl rfl (by simp) H9.out).mono ?_
        rintro e w12 ⟨rfl, v12, HSn⟩
        clear HS c9 c10 c11 c12
        have c13 := bkCell (HSn.get (.tail _ (.tail _ (.head _)))) 13 _ rfl
        have c14 := bkCell (HSn.get (.tail _ (.tail _ (.head _)))) 14 _ rfl
        have c15 := bkCell (HSn.get (.tail _ (.tail _ (.head _)))) 15 _ rfl
        obtain ⟨B0, hB0⟩ : ∃ B0, B0 = w.heap.size := ⟨_, rfl⟩
        rw [← hB0] at HSn c13 c14 c15
        have hns : ¬ footL (wtr G v12 b9) B0 := fun h => HSn.hs.apart_of (R := wtr G v12 b9) (L := [_]) _ h (footL_one.2 rfl)
        have hRlt : ∀ b, footL (wtr G v12 b9) b → b < w12.heap.size := (HSn.hs.left (R := wtr G v12 b9)).lt
        go_wp2_with fail
        rw [← hB0]
        clear hB0
        refine free_write (R := footL (wtr G v12 b9)) 14 (fun w' => ∃ v', St w (fun _ => False) w' [blk G [v'] 57, rB v' bb, (blk B0 [.int .u32 a0_0, .bool a0_1, .int .u32 a0_2, .int .u32 a0_3, .int .i64 a0_4, .int .u32 a0_5, .int .u32 a0_6, .slice A0_7 l0_7.length c0_7, .int .u64 a0_8, .int .u32 a0_9, .int .u32 a0_10, .int .u32 a0_11, .int .u32 a0_12, .int .i64 a0_13, .int .i64 a0_14, .int .i64 a0_15] 34)]) (fun w1 w2 ⟨v', h1⟩ h2 => ⟨v', h1.below h2⟩) (n := 15) (T := _) [0, 0, 2, 6, 14, 0, 32, 96, 224, 0, 512, 1536, 3584, 8190, 16383] [(0, 91), (1, 92), (2, 93), (3, 94), (4, 95), (5, 96), (6, 97), (7, 98), (8, 99), (9, 100), (10, 101), (11, 102), (12, 103), (13, 104), (14, 105)] (fun i v w => match i with | 0 => v = .pointer (some ⟨G, 0, none⟩) | 1 => v = .pointer (some ⟨B0, 8, none⟩) | 2 => v = .pointer (some ⟨B0, 13, none⟩) | 3 => v = .int .i64 a0_13 | 4 => v = .int .u64 (uw a0_13) | 5 => v = .pointer (some ⟨B0, 8, none⟩) | 6 => v = .pointer (some ⟨B0, 14, none⟩) | 7 => v = .int .i64 a0_14 | 8 => v = .int .u64 (uw a0_14) | 9 => v = .pointer (some ⟨B0, 8, none⟩) | 10 => v = .pointer (some ⟨B0, 15, none⟩) | 11 => v = .int .i64 a0_15 | 12 => v = .int .u64 (upP a0_15) | 13 => ∃ q, v = .slice (some ⟨q, 0, none⟩) 3 3 ∧ w12.heap.size ≤ q ∧ w.heap[q]? = some (.cells ([.int .u64 (uw a0_13), .int .u64 (uw a0_14), .int .u64 (upP a0_15)] : List Value).toArray 30 (0, 0)) | 14 => v = .tuple #[] | _ => True) (by kernel_rfl) rfl rfl (by kernel_rfl) (by kernel_rfl) (by kernel_rfl) rfl (by kernel_rfl) ⟨105, by simp⟩ ?_ ?_
        · intro e he a wz hB hel hdep
          simp only [List.mem_cons, List.not_mem_nil, or_false] at he
          rcases he with rfl | rfl | rfl | rfl | rfl | rfl | rfl | rfl | rfl | rfl | rfl | rfl | rfl | rfl | rfl
          · have h4 : a.tmps[4]? = some (.pointer (some ⟨G, 0, none⟩)) := (hel 4 (by decide)).trans rfl
            have e4 : a.eval (.tmp 4) = .pointer (some ⟨G, 0, none⟩) := eval_of h4
            exact ⟨_, rfl, rfl, Ok.move (wanted_none rfl) (.inl rfl) e4 (fun _ _ => rfl)⟩
          · have h1 : a.tmps[1]? = some (.pointer (some ⟨B0, 0, none⟩)) := (hel 1 (by decide)).trans rfl
            have e1 : a.eval (.tmp 1) = .pointer (some ⟨B0, 0, none⟩) := eval_of h1
            exact ⟨_, rfl, rfl, Ok.pure (.pointer (some ⟨B0, 8, none⟩)) (wanted_none rfl) (by simp only [execOp]; go_simp) (fun _ _ => rfl)⟩
          · obtain ⟨v92, h92, q92⟩ := hdep (1, 92) (by decide) (by decide)
            obtain rfl : v92 = .pointer (some ⟨B0, 8, none⟩) := q92.now
            replace h92 : a.tmps[92]? = some (.pointer (some ⟨B0, 8, none⟩)) := h92
            have e92 : a.eval (.tmp 92) = .pointer (some ⟨B0, 8, none⟩) := eval_of h92
            exact ⟨_, rfl, rfl, Ok.pure (.pointer (some ⟨B0, 13, none⟩)) (wanted_none rfl) (by simp only [execOp]; go_simp) (fun _ _ => rfl)⟩
          · obtain ⟨v93, h93, q93⟩ := hdep (2, 93) (by decide) (by decide)
            obtain rfl : v93 = .pointer (some ⟨B0, 13, none⟩) := q93.now
            replace h93 : a.tmps[93]? = some (.pointer (some ⟨B0, 13, none⟩)) := h93
            have e93 : a.eval (.tmp 93) = .pointer (some ⟨B0, 13, none⟩) := eval_of h93
            have k := hB.1.cell c13 hns
            exact ⟨_, rfl, rfl, Ok.pure (.int .i64 a0_13) (wanted_none rfl) (by simp only [execOp]; go_simp) (fun _ _ => rfl)⟩
          · obtain ⟨v94, h94, q94⟩ := hdep (3, 94) (by decide) (by decide)
            obtain rfl : v94 = .int .i64 a0_13 := q94.now
            replace h94 : a.tmps[94]? = some (.int .i64 a0_13) := h94
            have e94 : a.eval (.tmp 94) = .int .i64 a0_13 := eval_of h94
            exact ⟨_, rfl, rfl, Ok.pure (.int .u64 (uw a0_13)) (wanted_none rfl) (by simp only [execOp]; go_simp; rfl) (fun _ _ => rfl)⟩
          · have h1 : a.tmps[1]? = some (.pointer (some ⟨B0, 0, none⟩)) := (hel 1 (by decide)).trans rfl
            have e1 : a.eval (.tmp 1) = .pointer (some ⟨B0, 0, none⟩) := eval_of h1
            exact ⟨_, rfl, rfl, Ok.pure (.pointer (some ⟨B0, 8, none⟩)) (wanted_none rfl) (by simp only [execOp]; go_simp) (fun _ _ => rfl)⟩
          · obtain ⟨v96, h96, q96⟩ := hdep (5, 96) (by decide) (by decide)
            obtain rfl : v96 = .pointer (some ⟨B0, 8, none⟩) := q96.now
            replace h96 : a.tmps[96]? = some (.pointer (some ⟨B0, 8, none⟩)) := h96
            have e96 : a.eval (.tmp 96) = .pointer (some ⟨B0, 8, none⟩) := eval_of h96
            exact ⟨_, rfl, rfl, Ok.pure (.pointer (some ⟨B0, 14, none⟩)) (wanted_none rfl) (by simp only [execOp]; go_simp) (fun _ _ => rfl)⟩
          · obtain ⟨v97, h97, q97⟩ := hdep (6, 97) (by decide) (by decide)
            obtain rfl : v97 = .pointer (some ⟨B0, 14, none⟩) := q97.now
            replace h97 : a.tmps[97]? = some (.pointer (some ⟨B0, 14, none⟩)) := h97
            have e97 : a.eval (.tmp 97) = .pointer (some ⟨B0, 14, none⟩) := eval_of h97
            have k := hB.1.cell c14 hns
            exact ⟨_, rfl, rfl, Ok.pure (.int .i64 a0_14) (wanted_none rfl) (by simp only [execOp]; go_simp) (fun _ _ => rfl)⟩
          · obtain ⟨v98, h98, q98⟩ := hdep (7, 98) (by decide) (by decide)
            obtain rfl : v98 = .int .i64 a0_14 := q98.now
            replace h98 : a.tmps[98]? = some (.int .i64 a0_14) := h98
            have e98 : a.eval (.tmp 98) = .int .i64 a0_14 := eval_of h98
            exact ⟨_, rfl, rfl, Ok.pure (.int .u64 (uw a0_14)) (wanted_none rfl) (by simp only [execOp]; go_simp; rfl) (fun _ _ => rfl)⟩
          · have h1 : a.tmps[1]? = some (.pointer (some ⟨B0, 0, none⟩)) := (hel 1 (by decide)).trans rfl
            have e1 : a.eval (.tmp 1) = .pointer (some ⟨B0, 0, none⟩) := eval_of h1
            exact ⟨_, rfl, rfl, Ok.pure (.pointer (some ⟨B0, 8, none⟩)) (wanted_none rfl) (by simp only [execOp]; go_simp) (fun _ _ => rfl)⟩
          · obtain ⟨v100, h100, q100⟩ := hdep (9, 100) (by decide) (by decide)
            obtain rfl : v100 = .pointer (some ⟨B0, 8, none⟩) := q100.now
            replace h100 : a.tmps[100]? = some (.pointer (some ⟨B0, 8, none⟩)) := h100
            have e100 : a.eval (.tmp 100) = .pointer (some ⟨B0, 8, none⟩) := eval_of h100
            exact ⟨_, rfl, rfl, Ok.pure (.pointer (some ⟨B0, 15, none⟩)) (wanted_none rfl) (by simp only [execOp]; go_simp) (fun _ _ => rfl)⟩
          · obtain ⟨v101, h101, q101⟩ := hdep (10, 101) (by decide) (by decide)
            obtain rfl : v101 = .pointer (some ⟨B0, 15, none⟩) := q101.now
            replace h101 : a.tmps[101]? = some (.pointer (some ⟨B0, 15, none⟩)) := h101
            have e101 : a.eval (.tmp 101) = .pointer (some ⟨B0, 15, none⟩) := eval_of h101
            have k := hB.1.cell c15 hns
            exact ⟨_, rfl, rfl, Ok.pure (.int .i64 a0_15) (wanted_none rfl) (by simp only [execOp]; go_simp) (fun _ _ => rfl)⟩
          · obtain ⟨v102, h102, q102⟩ := hdep (11, 102) (by decide) (by decide)
            obtain rfl : v102 = .int .i64 a0_15 := q102.now
            replace h102 : a.tmps[102]? = some (.int .i64 a0_15) := h102
            have e102 : a.eval (.tmp 102) = .int .i64 a0_15 := eval_of h102
            exact ⟨_, rfl, rfl, Ok.call (T := Mk) Try.func24 (by kernel_rfl) rfl #[.int .i64 a0_15] (wanted_none rfl) rfl (by simp [e102]) ((up_same a0_15 _).mono (by rintro e w' ⟨rfl, rfl⟩; exact ⟨_, rfl, fun _ _ => rfl, Below.refl _ _⟩))⟩
          · obtain ⟨v95, h95, q95⟩ := hdep (4, 95) (by decide) (by decide)
            obtain rfl : v95 = .int .u64 (uw a0_13) := q95.now
            replace h95 : a.tmps[95]? = some (.int .u64 (uw a0_13)) := h95
            have e95 : a.eval (.tmp 95) = .int .u64 (uw a0_13) := eval_of h95
            obtain ⟨v99, h99, q99⟩ := hdep (8, 99) (by decide) (by decide)
            obtain rfl : v99 = .int .u64 (uw a0_14) := q99.now
            replace h99 : a.tmps[99]? = some (.int .u64 (uw a0_14)) := h99
            have e99 : a.eval (.tmp 99) = .int .u64 (uw a0_14) := eval_of h99
            obtain ⟨v103, h103, q103⟩ := hdep (12, 103) (by decide) (by decide)
            obtain rfl : v103 = .int .u64 (upP a0_15) := q103.now
            replace h103 : a.tmps[103]? = some (.int .u64 (upP a0_15)) := h103
            have e103 : a.eval (.tmp 103) = .int .u64 (upP a0_15) := eval_of h103
            have hsz := hB.1.kept.1
            exact ⟨_, rfl, rfl, Ok.make (.slice (some ⟨wz.heap.size, 0, none⟩) 3 3) (wz.alloc (.cells ([.int .u64 (uw a0_13), .int .u64 (uw a0_14), .int .u64 (upP a0_15)] : List Value).toArray 30)) (wanted_none rfl) (by simp only [execOp]; go_simp) (below_alloc (Below.refl _ _) _) (fun w2 h2 => ⟨_, rfl, hsz, h2.blk (heap_alloc_new wz _) (fun h => by have := hRlt _ h; omega)⟩)⟩
          · obtain ⟨v91, h91, q91⟩ := hdep (0, 91) (by decide) (by decide)
            obtain rfl : v91 = .pointer (some ⟨G, 0, none⟩) := q91.now
            replace h91 : a.tmps[91]? = some (.pointer (some ⟨G, 0, none⟩)) := h91
            have e91 : a.eval (.tmp 91) = .pointer (some ⟨G, 0, none⟩) := eval_of h91
            obtain ⟨v104, h104, q104⟩ := hdep (13, 104) (by decide) (by decide)
            have s104 := q104.now
            obtain ⟨q, rfl, hq1, hq2⟩ := s104
            have e104 := eval_of h104
            have HSw := HSn.below (hB.2.1 rfl)
            exact ⟨_, rfl, rfl, Ok.call (T := fun wa wb => Tq (footL (wtr G v12 b9)) wa wb ∧ ∃ v', St w (fun _ => False) wb [blk G [v'] 57, rB v' bb, (blk B0 [.int .u32 a0_0, .bool a0_1, .int .u32 a0_2, .int .u32 a0_3, .int .i64 a0_4, .int .u32 a0_5, .int .u32 a0_6, .slice A0_7 l0_7.length c0_7, .int .u64 a0_8, .int .u32 a0_9, .int .u32 a0_10, .int .u32 a0_11, .int .u32 a0_12, .int .i64 a0_13, .int .i64 a0_14, .int .i64 a0_15] 34)]) Try.func22 (by kernel_rfl) rfl #[.pointer (some ⟨G, 0, none⟩), .int .i64 1, .slice (some ⟨q, 0, none⟩) 3 3] (wanted_none rfl) rfl (by simp [e91, e104]; rfl) ((wput_any k G v12 b9 1 _ 3 3 [uw a0_13, uw a0_14, upP a0_15] bb _ (HSw.hs.left (R := wtr G v12 b9)) rfl (ints_reads hq2 rfl (by simp)) (by simp) H10.out).mono (by rintro e w' ⟨rfl, v', hs⟩; exact ⟨_, rfl, fun _ _ => rfl, ⟨hs.os, hs.tape, hs.output, hs.kept⟩, v', HSw.call (R := wtr G v12 b9) (R' := wtr G v' bb) hs⟩))⟩
        intro vs wE hBE hS
        have f91 := hS (0, 91) (by decide)
        have f92 := hS (1, 92) (by decide)
        have f93 := hS (2, 93) (by decide)
        have f94 := hS (3, 94) (by decide)
        have f95 := hS (4, 95) (by decide)
        have f96 := hS (5, 96) (by decide)
        have f97 := hS (6, 97) (by decide)
        have f98 := hS (7, 98) (by decide)
        have f99 := hS (8, 99) (by decide)
        have f100 := hS (9, 100) (by decide)
        have f101 := hS (10, 101) (by decide)
        have f102 := hS (11, 102) (by decide)
        have f103 := hS (12, 103) (by decide)
        have f104 := hS (13, 104) (by decide)
        have f105 := hS (14, 105) (by decide)
        clear hS
        simp only [tells, List.map_cons, List.map_nil, putSel, if_true]
        generalize vs 0 = z91 at *
        generalize vs 1 = z92 at *
        generalize vs 2 = z93 at *
        generalize vs 3 = z94 at *
        generalize vs 4 = z95 at *
        generalize vs 5 = z96 at *
        generalize vs 6 = z97 at *
        generalize vs 7 = z98 at *
        generalize vs 8 = z99 at *
        generalize vs 9 = z100 at *
        generalize vs 10 = z101 at *
        generalize vs 11 = z102 at *
        generalize vs 12 = z103 at *
        generalize vs 13 = z104 at *
        generalize vs 14 = z105 at *
        have f91' : z91 = .pointer (some ⟨G, 0, none⟩) := f91
        clear f91
        subst f91'
        have f92' : z92 = .pointer (some ⟨B0, 8, none⟩) := f92
        clear f92
        subst f92'
        have f93' : z93 = .pointer (some ⟨B0, 13, none⟩) := f93
        clear f93
        subst f93'
        have f94' : z94 = .int .i64 a0_13 := f94
        clear f94
        subst f94'
        have f95' : z95 = .int .u64 (uw a0_13) := f95
        clear f95
        subst f95'
        have f96' : z96 = .pointer (some ⟨B0, 8, none⟩) := f96
        clear f96
        subst f96'
        have f97' : z97 = .pointer (some ⟨B0, 14, none⟩) := f97
        clear f97
        subst f97'
        have f98' : z98 = .int .i64 a0_14 := f98
        clear f98
        subst f98'
        have f99' : z99 = .int .u64 (uw a0_14) := f99
        clear f99
        subst f99'
        have f100' : z100 = .pointer (some ⟨B0, 8, none⟩) := f100
        clear f100
        subst f100'
        have f101' : z101 = .pointer (some ⟨B0, 15, none⟩) := f101
        clear f101
        subst f101'
        have f102' : z102 = .int .i64 a0_15 := f102
        clear f102
        subst f102'
        have f103' : z103 = .int .u64 (upP a0_15) := f103
        clear f103
        subst f103'
        have f105' : z105 = .tuple #[] := f105
        clear f105
        subst f105'
        simp only [Act.put, List.setIfInBounds_toArray, List.set_cons_zero, List.set_cons_succ]
        obtain ⟨-, v14, HS⟩ := hBE
        clear f104
        obtain ⟨A14, q14, hv, -, -⟩ := row_reads (HS.get (.tail _ (.head _)))
        subst hv
        have d0 := bkCell (HS.get (.head _)) 0 _ rfl
        clear c13 c14 c15 hns hRlt HSn
        go_wp2_with fail
        go_ret2
        refine ⟨_, rfl, ?_, HS.belowOf⟩
        have h1 := (HS.get (.tail _ (.head _)))
        exact row_new h1 (fun b hb => (HS.mine b (footL_cons.2 (.inr (footL_cons.2 (.inl hb))))).elim (fun h => h.elim) id) (fun h => h)

-- NOT PRINTED: function 26 (ends_New)

-- NOT PRINTED: function 28 (record_reader_page)

-- NOT PRINTED: function 29 (record_reader_label)

/-! ### slices_Equal_byte_byte: function 30 -/
def slices_Equal_byte_byte.l0 : Nat → List Int → List Int → Int → Int → Option (Bool)
  | 0, _, _, _, _ => none
  | k + 1, x0, x1, x12, x13 => if x13 < x12 then (if 0 ≤ x13 then (if x13 < (x0.length : Int) then (if x13 < (x1.length : Int) then (if (rd x0 x13) = (rd x1 x13) then (slices_Equal_byte_byte.l0 k x0 x1 x12 (wrap64 (x13 + 1))) else (some false)) else (none)) else (none)) else (none)) else (some true)
def slices_Equal_byte_byte.f (k : Nat) (l0 : List Int) (l1 : List Int) : Option (Bool) := if (l0.length : Int) = (l1.length : Int) then (slices_Equal_byte_byte.l0 k l0 l1 (l0.length : Int) 0) else (some false)
theorem slices_Equal_byte_byte.mono_l : ∀ k, (∀ y0 y1 y2 y3, LeO (slices_Equal_byte_byte.l0 k y0 y1 y2 y3) (slices_Equal_byte_byte.l0 (k + 1) y0 y1 y2 y3))
  | 0 => fun _ _ _ _ r h => by simp [slices_Equal_byte_byte.l0] at h
  | k + 1 => by
    have ih0 := slices_Equal_byte_byte.mono_l k
    · intro y0 y1 y2 y3
      unfold slices_Equal_byte_byte.l0
      repeat' first
      | (with_reducible exact ih0 _ _ _ _)
      | (with_reducible exact LeO.refl _)
      | (with_reducible exact LeO.none _)
      | (with_reducible refine LeO.ite ?_ ?_)
      | (with_reducible refine LeO.bind ?_ (fun _ => ?_))
      | exact ih0 _ _ _ _
      | exact LeO.none _
      | refine LeO.ite ?_ ?_
      | refine LeO.bind ?_ (fun _ => ?_)
theorem slices_Equal_byte_byte.mono : ∀ a0 a1 k, LeO (slices_Equal_byte_byte.f k a0 a1) (slices_Equal_byte_byte.f (k + 1) a0 a1) := by
  intro a0 a1 k
  have ih0 := slices_Equal_byte_byte.mono_l k
  unfold slices_Equal_byte_byte.f
  repeat' first
      | (with_reducible exact ih0 _ _ _ _)
      | (with_reducible exact LeO.refl _)
      | (with_reducible exact LeO.none _)
      | (with_reducible refine LeO.ite ?_ ?_)
      | (with_reducible refine LeO.bind ?_ (fun _ => ?_))
      | exact ih0 _ _ _ _
      | exact LeO.none _
      | refine LeO.ite ?_ ?_
      | refine LeO.bind ?_ (fun _ => ?_)
set_option maxHeartbeats 8000000 in
set_option maxRecDepth 100000 in
theorem slices_Equal_byte_byte.calls (k : Nat) (A0 : Option Addr) (c0 : Nat) (l0 : List Int) (A1 : Option Addr) (c1 : Nat) (l1 : List Int) (r : Bool) (w : World) (hr0 : Kd.C (Kd.int .u8) w A0 l0.length l0) (hc0 : l0.length ≤ c0) (hr1 : Kd.C (Kd.int .u8) w A1 l1.length l1) (hc1 : l1.length ≤ c1) (h : slices_Equal_byte_byte.f k l0 l1 = some r) :
    Calls Try.prog 30 #[.slice A0 l0.length c0, .slice A1 l1.length c1] w fun e w' => e = .returned (.bool r) ∧ Drawn0 w w' := by
  have HR0 := Aside0.mk hr0
  have HC0 := Aside0.mk hc0
  clear hr0 hc0
  have HR1 := Aside0.mk hr1
  have HC1 := Aside0.mk hc1
  clear hr1 hc1
  have H : (if (l0.length : Int) = (l1.length : Int) then (slices_Equal_byte_byte.l0 k l0 l1 (l0.length : Int) 0) else (some false)) = some r := h
  clear h
  by_cases c3 : (l0.length : Int) = (l1.length : Int)
  · rw [if_pos c3] at H
    have c3b0 : ((l0.length : Int) == (l1.length : Int)) = true := beq_iff_eq.mpr c3
    have c3b1 : ((l0.length : Int) != (l1.length : Int)) = false := bne_eq_false_iff_eq.mpr c3
    have c3b2 : (l0.length == l1.length) = true := by first | simpa using c3 | (simp at c3 ⊢; omega)
    clear c3
    have H' := Aside0.mk H
    clear H
    go_enter Try.func30, Try.ntmps30
    go_wp2
    repeat (go_quiet (fail); try go_wp2)
    go_loopg [13] k (fun kq v13 w' => ∃ (x13_1 : Int), v13 = .int .i64 x13_1 ∧ Aside0 (slices_Equal_byte_byte.l0 kq l0 l1 (l0.length : Int) x13_1 = some r) ∧ Aside0 (kq ≤ k) ∧ Drawn0 w w')
    case atStart => exact ⟨(0), (by first | rfl | (simp; done) | (simp [*]; done)), H', ⟨Nat.le_refl _⟩, by repeat (first | exact Drawn0.refl _ | apply Drawn0.step)⟩
    case round =>
      clear H'
      try clear c1
      try clear p2
      try clear c3
      try clear c3b0
      try clear c3b1
      try clear c3b2
      obtain ⟨x13_1, rfl, HA, HK1, ⟨m1, rfl⟩⟩ := hrel
      cases gk with
      | zero => exact absurd HA.out (by simp [slices_Equal_byte_byte.l0])
      | succ k1 =>
        have H := HA.out
        clear HA
        simp only [slices_Equal_byte_byte.l0] at H
        by_cases c4 : x13_1 < (l0.length : Int)
        · rw [if_pos c4] at H
          have c4b0 : decide (x13_1 < (l0.length : Int)) = true := decide_eq_true c4
          clear c4
          by_cases c5 : 0 ≤ x13_1
          · rw [if_pos c5] at H
            have c5b0 : decide (0 ≤ x13_1) = true := decide_eq_true c5
            clear c5
            by_cases c6 : x13_1 < (l0.length : Int)
            · rw [if_pos c6] at H
              have c6b0 : decide (x13_1 < (l0.length : Int)) = true := decide_eq_true c6
              clear c6
              by_cases c7 : x13_1 < (l1.length : Int)
              · rw [if_pos c7] at H
                have c7b0 : decide (x13_1 < (l1.length : Int)) = true := decide_eq_true c7
                clear c7
                by_cases c8 : (rd l0 x13_1) = (rd l1 x13_1)
                · rw [if_pos c8] at H
                  have c8b0 : ((rd l0 x13_1) == (rd l1 x13_1)) = true := beq_iff_eq.mpr c8
                  have c8b1 : ((rd l0 x13_1) != (rd l1 x13_1)) = false := bne_eq_false_iff_eq.mpr c8
                  clear c8
                  have H' := Aside0.mk H
                  clear H
                  have p170 : 0 ≤ (x13_1 : Int) := of_decide_eq_true (by first | (with_reducible assumption) | assumption)
                  have q170 : x13_1 < (l0.length : Int) := of_decide_eq_true (by first | (with_reducible assumption) | assumption)
                  obtain ⟨ad170, e170, hx170_0⟩ := Kd.at_int HR0.out x13_1 p170 q170
                  cases e170
                  replace p170 := eq_true p170
                  replace q170 := eq_true q170
                  have p171 : 0 ≤ (x13_1 : Int) := of_decide_eq_true (by first | (with_reducible assumption) | assumption)
                  have q171 : x13_1 < (l1.length : Int) := of_decide_eq_true (by first | (with_reducible assumption) | assumption)
                  obtain ⟨ad171, e171, hx171_0⟩ := Kd.at_int HR1.out x13_1 p171 q171
                  cases e171
                  replace p171 := eq_true p171
                  replace q171 := eq_true q171
                  go_wp2
                  repeat (go_quiet (fail); try go_wp2)
                  go_roundg k1
                  case measure => have := HK1.out; omega
                  case rel => exact ⟨(wrap64 (x13_1 + 1)), (by first | rfl | (simp; done) | (simp [*]; done)), H', ⟨by have := HK1.out; omega⟩, by repeat (first | exact Drawn0.refl _ | apply Drawn0.step)⟩
                · rw [if_neg c8] at H
                  have c8b0 : ((rd l0 x13_1) == (rd l1 x13_1)) = false := beq_eq_false_iff_ne.mpr c8
                  have c8b1 : ((rd l0 x13_1) != (rd l1 x13_1)) = true := bne_iff_ne.mpr c8
                  obtain rfl := Option.some.inj H
                  have p170 : 0 ≤ (x13_1 : Int) := of_decide_eq_true (by first | (with_reducible assumption) | assumption)
                  have q170 : x13_1 < (l0.length : Int) := of_decide_eq_true (by first | (with_reducible assumption) | assumption)
                  obtain ⟨ad170, e170, hx170_0⟩ := Kd.at_int HR0.out x13_1 p170 q170
                  cases e170
                  replace p170 := eq_true p170
                  replace q170 := eq_true q170
                  have p171 : 0 ≤ (x13_1 : Int) := of_decide_eq_true (by first | (with_reducible assumption) | assumption)
                  have q171 : x13_1 < (l1.length : Int) := of_decide_eq_true (by first | (with_reducible assumption) | assumption)
                  obtain ⟨ad171, e171, hx171_0⟩ := Kd.at_int HR1.out x13_1 p171 q171
                  cases e171
                  replace p171 := eq_true p171
                  replace q171 := eq_true q171
                  go_wp2
                  repeat (go_quiet (fail); try go_wp2)
                  go_ret
                  exact ⟨by first | rfl | (simp; done) | (simp [*]; done), by repeat (first | exact Drawn0.refl _ | apply Drawn0.step)⟩
              · rw [if_neg c7] at H
                exact absurd H (by simp)
            · rw [if_neg c6] at H
              exact absurd H (by simp)
          · rw [if_neg c5] at H
            exact absurd H (by simp)
        · rw [if_neg c4] at H
          have c4b0 : decide (x13_1 < (l0.length : Int)) = false := decide_eq_false c4
          clear c4
          obtain rfl := Option.some.inj H
          go_wp2
          repeat (go_quiet (fail); try go_wp2)
          go_ret
          exact ⟨by first | rfl | (simp; done) | (simp [*]; done), by repeat (first | exact Drawn0.refl _ | apply Drawn0.step)⟩
  · rw [if_neg c3] at H
    have c3b0 : ((l0.length : Int) == (l1.length : Int)) = false := beq_eq_false_iff_ne.mpr c3
    have c3b1 : ((l0.length : Int) != (l1.length : Int)) = true := bne_iff_ne.mpr c3
    have c3b2 : (l0.length == l1.length) = false := by first | simpa using c3 | (simp at c3 ⊢; omega)
    obtain rfl := Option.some.inj H
    go_enter Try.func30, Try.ntmps30
    go_wp2
    repeat (go_quiet (fail); try go_wp2)
    go_ret
    exact ⟨by first | rfl | (simp; done) | (simp [*]; done), by repeat (first | exact Drawn0.refl _ | apply Drawn0.step)⟩

end Go.Proofs.Ytkiiangookibnaa.PRecordApart
