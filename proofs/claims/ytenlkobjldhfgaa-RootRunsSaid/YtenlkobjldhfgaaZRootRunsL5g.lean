/- Are acts too great? -/
import Derived.Test.YtenlkobjldhfgaaZRootRunsL5a
import Derived.Test.YtenlkobjldhfgaaZRootRunsArgsD
import Derived.Test.YtenlkobjldhfgaaZRootRunsV8
set_option linter.unusedVariables false
set_option linter.unusedSimpArgs false
namespace Go.Proofs.Ytenlkobjldhfgaa
open Go.RowKit Go.Proofs.YtenlkobjldhfgaaW.PrintWords Go.Proofs.YtenlkobjldhfgaaW.PrintLast Crc
abbrev U4l5g (l : List Value) : List Value := undef :: undef :: undef :: undef :: l
abbrev U8l5g (l : List Value) : List Value := U4l5g (U4l5g l)
abbrev U16l5g (l : List Value) : List Value := U8l5g (U8l5g l)
theorem rcell_below {w w1 : World} (hb : Below w.heap.size w w1) {a : Addr} {v : Value} (h : w.cell? a = some v) : w1.cell? a = some v := by
 have hlt : a.block < w.heap.size := by
  rcases Nat.lt_or_ge a.block w.heap.size with h' | h'
  ·exact h'
  ·rw [World.cell?, Array.getElem?_eq_none h'] at h; cases h
 rw [← h]
 exact World.cell?_of_block (hb.block _ hlt)
def grB (l : List rAT) : Bool := decide (40 < l.length) || l.any (fun y => decide (400 < y.2.2.2.1.length))
theorem gr_yes {l : List rAT} (h : 40 < l.length) : grB l = true := by unfold grB; rw [decide_eq_true h]; rfl
theorem gr_one {l : List rAT} {j : Nat} {y : rAT} (hy : l[j]? = some y) (h : 400 < y.2.2.2.1.length) : grB l = true := by
 unfold grB
 rw [Bool.or_eq_true]
 exact .inr (List.any_eq_true.2 ⟨y, List.mem_of_getElem? hy, decide_eq_true h⟩)
theorem gr_no {l : List rAT} (h : ¬ 40 < l.length) (h2 : ∀ (j : Nat) (y : rAT), l[j]? = some y → ¬ 400 < y.2.2.2.1.length) : grB l = false := by
 unfold grB
 rw [decide_eq_false h, Bool.false_or, List.any_eq_false]
 intro y hy
 obtain ⟨j, hj⟩ := List.getElem?_of_mem hy
 rw [decide_eq_false (h2 j y hj)]
 decide
theorem gr_small {l : List rAT} (h : grB l = false) : l.length ≤ 40 ∧ ∀ (j : Nat) (y : rAT), l[j]? = some y → y.2.2.2.1.length ≤ 400 := by
 refine ⟨?_, fun j y hy => ?_⟩
 ·rcases Nat.lt_or_ge 40 l.length with h' | h'
  ·rw [gr_yes h'] at h; cases h
  ·exact h'
 ·rcases Nat.lt_or_ge 400 y.2.2.2.1.length with h' | h'
  ·rw [gr_one hy h'] at h; cases h
  ·exact h'
set_option maxRecDepth 10000 in
set_option maxHeartbeats 2000000 in
theorem great_any (w : World) (A0 : Option Addr) (c0 : Nat) (l0 : List rAT) (hr0 : krA.C w A0 l0.length l0) (hm : l0.length ≤ 9223372036854775807) : Calls Try.prog 15 #[.slice A0 l0.length c0] w fun e w' => e = .returned (.bool (grB l0)) ∧ Below w.heap.size w w' := by
 have HS := St.empty w
 by_cases hl : 40 < l0.length
 ·refine c_enter Try.func15 rfl 19 rfl (.slice A0 l0.length c0 :: U16l5g (undef :: undef :: [])) rfl ?_
  refine wp_seq_k (fun K1 hK2 => ?_)
  refine c_region (fun ops4 hops3 => ?_)
  clear hops3
  refine p_run _ (x_assign (.bool false) rfl rfl) rfl ?_
  refine wpList_nil ?_
  refine hK2 _ _ ?_
  refine wp_seq_k (fun K5 hK6 => ?_)
  refine wp_seq_k (fun K7 hK8 => ?_)
  refine c_region (fun ops10 hops9 => ?_)
  clear hops9
  refine p_run _ (x_move (.slice A0 l0.length c0) rfl rfl) rfl ?_
  refine p_run _ (x_len rfl rfl Try.underlying43) rfl ?_
  refine p_run _ (x_cmp (k := .i64) (m := (l0.length : Int)) (n := 40) .gtr true rfl rfl rfl (show decide _ = true from decide_eq_true (by omega)) rfl) rfl ?_
  refine wpList_nil ?_
  refine hK8 _ _ ?_
  refine c_true rfl ?_
  refine wp_seq_k (fun K11 hK12 => ?_)
  refine c_region (fun ops14 hops13 => ?_)
  clear hops13
  refine p_run _ (x_assign (.bool true) rfl rfl) rfl ?_
  refine wpList_nil ?_
  refine hK12 _ _ ?_
  refine wp_ret ?_
  try simp only [Exit.inBlock, Exit.then]
  refine c_ret (.bool true) (r_tmp rfl rfl) ?_
  rw [gr_yes hl]
  exact ⟨rfl, HS.belowOf⟩
 ·refine c_enter Try.func15 rfl 19 rfl (.slice A0 l0.length c0 :: U16l5g (undef :: undef :: [])) rfl ?_
  refine wp_seq_k (fun K1 hK2 => ?_)
  refine c_region (fun ops4 hops3 => ?_)
  clear hops3
  refine p_run _ (x_assign (.bool false) rfl rfl) rfl ?_
  refine wpList_nil ?_
  refine hK2 _ _ ?_
  refine wp_seq_k (fun K5 hK6 => ?_)
  refine wp_seq_k (fun K7 hK8 => ?_)
  refine c_region (fun ops10 hops9 => ?_)
  clear hops9
  refine p_run _ (x_move (.slice A0 l0.length c0) rfl rfl) rfl ?_
  refine p_run _ (x_len rfl rfl Try.underlying43) rfl ?_
  refine p_run _ (x_cmp (k := .i64) (m := (l0.length : Int)) (n := 40) .gtr false rfl rfl rfl (show decide _ = false from decide_eq_false (by omega)) rfl) rfl ?_
  refine wpList_nil ?_
  refine hK8 _ _ ?_
  refine c_false rfl ?_
  refine wp_skip ?_
  refine hK6 _ _ ?_
  refine wp_seq_k (fun K11 hK12 => ?_)
  refine wp_seq_k (fun K13 hK14 => ?_)
  refine c_region (fun ops16 hops15 => ?_)
  clear hops15
  refine p_run _ (x_move (.slice A0 l0.length c0) rfl rfl) rfl ?_
  refine p_run _ (x_len rfl rfl Try.underlying43) rfl ?_
  refine p_run _ (x_move (.int .i64 0) rfl rfl) rfl ?_
  refine wpList_nil ?_
  refine fr_at (l' := (.slice A0 l0.length c0 :: undef :: .bool false :: undef :: undef :: .slice A0 l0.length c0 :: .int .i64 (l0.length : Int) :: .bool false :: .slice A0 l0.length c0 :: .int .i64 (l0.length : Int) :: .int .i64 0 :: U8l5g ([]))) rfl ?_
  refine hK14 _ _ ?_
  refine wp_block ?_
  refine c_loop (ι := Nat) (fun i_ a_ w_ => match i_ with | i => ∃ (u2 : Value) (u4 : Value) (u11 : Value) (u12 : Value) (u13 : Value) (u14 : Value) (u15 : Value) (u16 : Value) (u17 : Value) (u18 : Value), a_ = fr (.slice A0 l0.length c0 :: undef :: u2 :: undef :: u4 :: .slice A0 l0.length c0 :: .int .i64 (l0.length : Int) :: .bool false :: .slice A0 l0.length c0 :: .int .i64 (l0.length : Int) :: .int .i64 (i : Int) :: u11 :: u12 :: u13 :: u14 :: u15 :: u16 :: u17 :: u18 :: []) ∧ St w (fun _ => False) w_ ([]) ∧ (i ≤ l0.length ∧ ∀ (j : Nat) (y : rAT), j < i → l0[j]? = some y → ¬ 400 < y.2.2.2.1.length)) (fun i_ => match i_ with | i => l0.length - i) 0 ?_ ?_
  ·exact ⟨_, _, _, _, _, _, _, _, _, _, rfl, HS, ⟨Nat.zero_le _, fun j y h => absurd h (by omega)⟩⟩
  ·clear HS
   rintro i a_ w19 ⟨u2, u4, u11, u12, u13, u14, u15, u16, u17, u18, rfl, HS, hI⟩ J17 hJ18
   obtain ⟨hil, hall⟩ := hI
   refine wp_seq_k (fun K20 hK21 => ?_)
   refine c_region (fun ops23 hops22 => ?_)
   clear hops22
   refine p_run _ (x_cmp (k := .i64) (m := (i : Int)) (n := (l0.length : Int)) .lss (decide ((i : Int) < (l0.length : Int))) rfl rfl rfl rfl rfl) rfl ?_
   refine wpList_nil ?_
   refine hK21 _ _ ?_
   refine wp_seq_k (fun K24 hK25 => ?_)
   refine c_cond (t := decide ((i : Int) < (l0.length : Int))) rfl (fun hc26 => ?_) (fun hc26 => ?_)
   ·have hlt : i < l0.length := by have := of_decide_eq_true hc26; omega
    obtain ⟨ad, ⟨kd, aa, gg, xs, kp⟩, A3, c3, A4, c4, rfl, hy, hl3, hC3, hl4, hC4, hcell0⟩ := rA_get hr0 i hlt
    have hcell := fun (j : Nat) (u : Value) (h : ([.int .i64 kd, .int .i64 aa, .int .u64 gg, .slice A3 xs.length c3, .slice A4 kp.length c4] : List Value)[j]? = some u) => rcell_below HS.belowOf (hcell0 j u h)
    refine wp_skip ?_
    refine hK25 _ _ ?_
    refine wp_seq_k (fun K27 hK28 => ?_)
    refine wp_block ?_
    refine wp_seq_k (fun K29 hK30 => ?_)
    refine c_region (fun ops32 hops31 => ?_)
    clear hops31
    refine p_run _ (x_index (A := ad) (j := i * 5) (sz := 5) rfl rfl rfl Try.underlying43 (by kernel_rfl) (by omega) rfl) rfl ?_
    refine p_run _ (x_loads [.int .i64 kd, .int .i64 aa, .int .u64 gg, .slice A3 xs.length c3, .slice A4 kp.length c4] 5 rfl rfl hcell (by rfl) (by kernel_rfl) rfl) rfl ?_
    refine St.wAlloc HS (cs := [.int .i64 0, .int .i64 0, .int .u64 0, .slice none 0 0, .slice none 0 0]) (.agg [.int .i64 0, .int .i64 0, .int .u64 0, .slice none 0 0, .slice none 0 0].toArray) (by kernel_rfl) rfl ?_
    clear HS
    intro g33 w34 hg35 HS
    refine St.stores (cs' := [.int .i64 kd, .int .i64 aa, .int .u64 gg, .slice A3 xs.length c3, .slice A4 kp.length c4]) HS [.int .i64 kd, .int .i64 aa, .int .u64 gg, .slice A3 xs.length c3, .slice A4 kp.length c4] 5 rfl rfl (by rfl) (by kernel_rfl) rfl (by simp) rfl ?_
    clear HS
    intro w36 HS
    refine wpList_nil ?_
    refine hK30 _ _ ?_
    refine wp_seq_k (fun K37 hK38 => ?_)
    refine c_region (fun ops40 hops39 => ?_)
    clear hops39
    refine p_run _ (x_field (j := 3) _ _ rfl rfl Try.underlying46 rfl (by rfl) rfl) rfl ?_
    refine p_run _ (x_load (.slice A3 xs.length c3) rfl rfl (bkCell (HS.get (.head _)) 3 _ rfl) (by rfl)) rfl ?_
    refine p_run _ (x_len rfl rfl Try.underlying24) rfl ?_
    refine p_run _ (x_cmp (k := .i64) (m := (xs.length : Int)) (n := 400) .gtr (decide ((xs.length : Int) > 400)) rfl rfl rfl rfl rfl) rfl ?_
    refine wpList_nil ?_
    refine hK38 _ _ ?_
    refine c_cond (t := decide ((xs.length : Int) > 400)) rfl (fun hc41 => ?_) (fun hc41 => ?_)
    ·have hbig : 400 < xs.length := by have := of_decide_eq_true hc41; omega
     refine wp_seq_k (fun K42 hK43 => ?_)
     refine c_region (fun ops45 hops44 => ?_)
     clear hops44
     refine p_run _ (x_assign (.bool true) rfl rfl) rfl ?_
     refine wpList_nil ?_
     refine hK43 _ _ ?_
     refine wp_ret ?_
     try simp only [Exit.inBlock, Exit.then]
     refine c_ret (.bool true) (r_tmp rfl rfl) ?_
     rw [gr_one hy hbig]
     exact ⟨rfl, HS.belowOf⟩
    ·have hbig : ¬ 400 < xs.length := by have := of_decide_eq_false hc41; omega
     refine wp_skip ?_
     refine hK28 _ _ ?_
     refine c_region (fun ops47 hops46 => ?_)
     clear hops46
     refine p_run _ (x_arith (k := .i64) (m := (i : Int)) (n := 1) .add (((i + 1 : Nat) : Int)) rfl rfl rfl (show IntKind.i64.wrap ((i : Int) + 1) = ((i + 1 : Nat) : Int) from ((wr64' (by omega)).trans (by omega))) rfl) rfl ?_
     refine p_run _ (x_move (.int .i64 ((i + 1 : Nat) : Int)) rfl rfl) rfl ?_
     refine wpList_nil ?_
     refine fr_at (l' := (.slice (some ad) l0.length c0 :: undef :: u2 :: undef :: .pointer (some ⟨g33, 0, none⟩) :: .slice (some ad) l0.length c0 :: .int .i64 (l0.length : Int) :: .bool false :: .slice (some ad) l0.length c0 :: .int .i64 (l0.length : Int) :: .int .i64 ((i + 1 : Nat) : Int) :: .bool (decide ((i : Int) < (l0.length : Int))) :: .pointer (some ((ad).add (i * 5))) :: .agg ([.int .i64 kd, .int .i64 aa, .int .u64 gg, .slice A3 xs.length c3, .slice A4 kp.length c4] : List Value).toArray :: .pointer (some ⟨g33, 3, none⟩) :: .slice A3 xs.length c3 :: .int .i64 (xs.length : Int) :: .bool (decide ((xs.length : Int) > 400)) :: .int .i64 ((i + 1 : Nat) : Int) :: [])) rfl ?_
     refine hJ18 (i + 1) _ _ ?_ ?_
     ·show l0.length - (i + 1) < l0.length - i; omega
     ·exact ⟨_, _, _, _, _, _, _, _, _, _, rfl, HS.drop, ⟨by omega, fun j y hj hy2 => (Nat.lt_or_ge j i).elim (fun h => hall j y h hy2) (fun h => by obtain rfl : j = i := (by omega); rw [hy] at hy2; obtain rfl := Option.some.inj hy2; exact hbig)⟩⟩
   ·have hlt : i = l0.length := by have := of_decide_eq_false hc26; omega
    subst hlt
    refine wp_exit ?_
    refine hK12 _ _ ?_
    refine wp_seq_k (fun K48 hK49 => ?_)
    refine c_region (fun ops51 hops50 => ?_)
    clear hops50
    refine p_run _ (x_assign (.bool false) rfl rfl) rfl ?_
    refine wpList_nil ?_
    refine hK49 _ _ ?_
    refine wp_ret ?_
    try simp only [Exit.inBlock, Exit.then]
    refine c_ret (.bool false) (r_tmp rfl rfl) ?_
    rw [gr_no hl (fun j y hy => hall j y (List.getElem?_eq_some_iff.1 hy).1 hy)]
    exact ⟨rfl, HS.belowOf⟩
end Go.Proofs.Ytenlkobjldhfgaa
