/- Package disk: Sync, Crash, Pending, New. -/
import Derived.Test.YtenlkobjldhfgaaDisk4
set_option linter.unusedVariables false
set_option linter.unusedSimpArgs false
namespace Go.Proofs.Ytenlkobjldhfgaa
open Go.RowKit Go.Proofs.YtenlkobjldhfgaaW.PrintWords Go.Proofs.YtenlkobjldhfgaaW.PrintLast
section
variable {w0 W : World} {F : Nat → Prop} {L : List Res} {D gs gm : Nat} {v : Value} {S : Dk}
set_option maxRecDepth 10000 in
theorem sync1_any (HS : St w0 F W L) (k : Nat) : Calls Try.prog 50 #[.int .i64 (k : Int)] W fun e w' => e = .returned (.int .u8 255) ∧ w' = W := by
  refine c_enter Try.func50 rfl 3 rfl [.int .i64 (k : Int), undef, undef] rfl ?_
  refine wp_seq_k (fun K1 hK2 => ?_)
  refine c_region (fun ops4 hops3 => ?_)
  clear hops3
  refine p_run _ (x_assign (.int .u8 0) rfl rfl) rfl ?_
  refine wpList_nil ?_
  refine fr_at (l' := [.int .i64 (k : Int), undef, .int .u8 0]) rfl ?_
  refine hK2 _ _ ?_
  refine wp_seq_k (fun K5 hK6 => ?_)
  refine c_region (fun ops8 hops7 => ?_)
  clear hops7
  refine p_run _ (x_assign (.int .u8 255) rfl rfl) rfl ?_
  refine wpList_nil ?_
  refine fr_at (l' := [.int .i64 (k : Int), undef, .int .u8 255]) rfl ?_
  refine hK6 _ _ ?_
  refine wp_ret ?_
  try simp only [Exit.inBlock, Exit.then]
  refine c_ret (.int .u8 255) (r_tmp rfl rfl) ?_
  exact ⟨rfl, rfl⟩

def maskOf (keep : List Int) (k : Nat) : Int := keep.getD k 0
theorem keep_get {w : World} {A : Option Addr} {n : Nat} {ps : List Int} (h : (Kd.int .u8).C w A n ps) (j : Nat) (hj : j < ps.length) : ∃ ad, A = some ad ∧ w.cell? (ad.add (j * 1)) = some (.int .u8 (maskOf ps j)) := by
  obtain ⟨ad, e, hc⟩ := h.2.2 (by have := h.1; omega)
  obtain ⟨c, hs, hr, hcell⟩ := hc j _ (List.getElem?_eq_getElem hj)
  refine ⟨ad, e, ?_⟩
  have := hcell 0 (.int .u8 ps[j]) (by rw [show c = [.int .u8 ps[j]] from hr]; rfl)
  unfold maskOf
  rw [List.getD_eq_getElem?_getD, List.getElem?_eq_getElem hj]
  exact this

set_option maxRecDepth 10000 in
theorem crash1_any {X : List Res} {bx : Nat} {A : Option Addr} {c : Nat} {keep : List Int} (HX : St w0 F W (X ++ blk bx [.slice A keep.length c] 24 :: L)) (hC : (Kd.int .u8).C W A keep.length keep) (k : Nat) (hkn : k < 1000000000) : Calls Try.prog 36 #[.int .i64 (k : Int), .pointer (some ⟨bx, 0, none⟩)] W fun e w' => e = .returned (.int .u8 (maskOf keep k)) ∧ w' = W := by
  have HS : St w0 (fun _ => True) W (blk bx [.slice A keep.length c] 24 :: L) := ⟨HX.os, HX.tape, HX.output, HX.kept.mono (fun _ _ => trivial), HX.hs.right, fun _ _ => .inl trivial⟩
  by_cases hlt : k < keep.length
  · skip
    have hb : decide ((k : Int) < (keep.length : Int)) = true := decide_eq_true (by omega)
    obtain ⟨ad, rfl, hcell⟩ := keep_get hC k hlt
    refine c_enter Try.func36 rfl 12 rfl [.int .i64 (k : Int), .pointer (some ⟨bx, 0, none⟩), undef, undef, undef, undef, undef, undef, undef, undef, undef, undef] rfl ?_
    refine wp_seq_k (fun K1 hK2 => ?_)
    refine c_region (fun ops4 hops3 => ?_)
    clear hops3
    refine p_run _ (x_assign (.int .u8 0) rfl rfl) rfl ?_
    refine wpList_nil ?_
    refine fr_at (l' := [.int .i64 (k : Int), .pointer (some ⟨bx, 0, none⟩), undef, .int .u8 0, undef, undef, undef, undef, undef, undef, undef, undef]) rfl ?_
    refine hK2 _ _ ?_
    refine wp_seq_k (fun K5 hK6 => ?_)
    refine wp_seq_k (fun K7 hK8 => ?_)
    refine c_region (fun ops10 hops9 => ?_)
    clear hops9
    refine p_run _ (x_move (.int .i64 (k : Int)) rfl rfl) rfl ?_
    refine p_run _ (x_load (.slice (some ad) keep.length c) rfl rfl (bkCell (HS.get (.head _)) 0 _ rfl) (by rfl)) rfl ?_
    refine p_run _ (x_len rfl rfl Try.underlying24) rfl ?_
    refine p_run (l' := [.int .i64 (k : Int), .pointer (some ⟨bx, 0, none⟩), undef, .int .u8 0, .int .i64 (k : Int), .slice (some ad) keep.length c, .int .i64 (keep.length : Int), .bool true, undef, undef, undef, undef]) _ (x_cmp (k := .i64) (m := (k : Int)) (n := (keep.length : Int)) .lss true rfl rfl rfl hb rfl) rfl ?_
    refine wpList_nil ?_
    refine hK8 _ _ ?_
    refine c_true rfl ?_
    refine wp_seq_k (fun K11 hK12 => ?_)
    refine c_region (fun ops14 hops13 => ?_)
    clear hops13
    refine p_run _ (x_load (.slice (some ad) keep.length c) rfl rfl (bkCell (HS.get (.head _)) 0 _ rfl) (by rfl)) rfl ?_
    refine p_run _ (x_move (.int .i64 (k : Int)) rfl rfl) rfl ?_
    refine p_run _ (x_index (A := ad) (j := k * 1) (sz := 1) rfl rfl rfl Try.underlying24 (by kernel_rfl) (by omega) rfl) rfl ?_
    refine p_run (l' := [.int .i64 (k : Int), .pointer (some ⟨bx, 0, none⟩), undef, .int .u8 0, .int .i64 (k : Int), .slice (some ad) keep.length c, .int .i64 (keep.length : Int), .bool true, .slice (some ad) keep.length c, .int .i64 (k : Int), .pointer (some ((ad).add (k * 1))), .int .u8 (maskOf keep k)]) _ (x_load (.int .u8 (maskOf keep k)) rfl rfl hcell (by rfl)) rfl ?_
    refine p_run _ (x_assign (.int .u8 (maskOf keep k)) rfl rfl) rfl ?_
    refine wpList_nil ?_
    refine fr_at (l' := [.int .i64 (k : Int), .pointer (some ⟨bx, 0, none⟩), undef, .int .u8 (maskOf keep k), .int .i64 (k : Int), .slice (some ad) keep.length c, .int .i64 (keep.length : Int), .bool true, .slice (some ad) keep.length c, .int .i64 (k : Int), .pointer (some ((ad).add (k * 1))), .int .u8 (maskOf keep k)]) rfl ?_
    refine hK12 _ _ ?_
    refine wp_ret ?_
    try simp only [Exit.inBlock, Exit.then]
    refine c_ret (.int .u8 (maskOf keep k)) (r_tmp rfl rfl) ?_
    exact ⟨rfl, rfl⟩
  · skip
    have hb : decide ((k : Int) < (keep.length : Int)) = false := decide_eq_false (by omega)
    refine c_enter Try.func36 rfl 12 rfl [.int .i64 (k : Int), .pointer (some ⟨bx, 0, none⟩), undef, undef, undef, undef, undef, undef, undef, undef, undef, undef] rfl ?_
    refine wp_seq_k (fun K1 hK2 => ?_)
    refine c_region (fun ops4 hops3 => ?_)
    clear hops3
    refine p_run _ (x_assign (.int .u8 0) rfl rfl) rfl ?_
    refine wpList_nil ?_
    refine fr_at (l' := [.int .i64 (k : Int), .pointer (some ⟨bx, 0, none⟩), undef, .int .u8 0, undef, undef, undef, undef, undef, undef, undef, undef]) rfl ?_
    refine hK2 _ _ ?_
    refine wp_seq_k (fun K5 hK6 => ?_)
    refine wp_seq_k (fun K7 hK8 => ?_)
    refine c_region (fun ops10 hops9 => ?_)
    clear hops9
    refine p_run _ (x_move (.int .i64 (k : Int)) rfl rfl) rfl ?_
    refine p_run _ (x_load (.slice A keep.length c) rfl rfl (bkCell (HS.get (.head _)) 0 _ rfl) (by rfl)) rfl ?_
    refine p_run _ (x_len rfl rfl Try.underlying24) rfl ?_
    refine p_run (l' := [.int .i64 (k : Int), .pointer (some ⟨bx, 0, none⟩), undef, .int .u8 0, .int .i64 (k : Int), .slice A keep.length c, .int .i64 (keep.length : Int), .bool false, undef, undef, undef, undef]) _ (x_cmp (k := .i64) (m := (k : Int)) (n := (keep.length : Int)) .lss false rfl rfl rfl hb rfl) rfl ?_
    refine wpList_nil ?_
    refine hK8 _ _ ?_
    refine c_false rfl ?_
    refine wp_skip ?_
    refine hK6 _ _ ?_
    refine wp_seq_k (fun K11 hK12 => ?_)
    refine c_region (fun ops14 hops13 => ?_)
    clear hops13
    refine p_run _ (x_assign (.int .u8 0) rfl rfl) rfl ?_
    refine wpList_nil ?_
    refine fr_at (l' := [.int .i64 (k : Int), .pointer (some ⟨bx, 0, none⟩), undef, .int .u8 0, .int .i64 (k : Int), .slice A keep.length c, .int .i64 (keep.length : Int), .bool false, undef, undef, undef, undef]) rfl ?_
    refine hK12 _ _ ?_
    refine wp_ret ?_
    try simp only [Exit.inBlock, Exit.then]
    refine c_ret (.int .u8 0) (r_tmp rfl rfl) ?_
    exact ⟨by rw [show maskOf keep k = 0 from by unfold maskOf; rw [List.getD_eq_getElem?_getD, List.getElem?_eq_none (by omega)]; rfl], rfl⟩

def Dk.sync (S : Dk) : Dk := if S.acts = true then S.act.settle (fun _ => 255) else S.act

set_option maxRecDepth 10000 in
theorem sync_any (HS : St w0 F W (dsk D gs gm v S L)) (hS : S.ok) (hpn : S.pending.length < 1000000) : Calls Try.prog 32 #[.pointer (some ⟨D, 0, none⟩)] W fun e w' => ∃ v', e = .returned (.int .i64 S.actE) ∧ St w0 F w' (dsk D gs gm v' S.sync L) := by
  have hl : -1 ≤ S.left ∧ S.left < 9223372036854775808 := ⟨hS.2.2.1, hS.2.2.2.1⟩
  rcases ha : S.acts with _ | _
  · skip
    have he : S.actE = 42 := by rw [actE_eq, if_neg (by simp [ha])]
    refine c_enter Try.func32 rfl 11 rfl [.pointer (some ⟨D, 0, none⟩), undef, undef, undef, undef, undef, undef, undef, undef, undef, undef] rfl ?_
    refine wp_seq_k (fun K1 hK2 => ?_)
    refine c_region (fun ops4 hops3 => ?_)
    clear hops3
    refine p_run _ (x_assign (.int .i64 0) rfl rfl) rfl ?_
    refine wpList_nil ?_
    refine fr_at (l' := [.pointer (some ⟨D, 0, none⟩), undef, .int .i64 0, undef, undef, undef, undef, undef, undef, undef, undef]) rfl ?_
    refine hK2 _ _ ?_
    refine wp_seq_k (fun K5 hK6 => ?_)
    refine c_region (fun ops8 hops7 => ?_)
    clear hops7
    refine p_run _ (x_move (.pointer (some ⟨D, 0, none⟩)) rfl rfl) rfl ?_
    refine w_call [.pointer (some ⟨D, 0, none⟩)] Try.func34 (by kernel_rfl) (by rfl) rfl ?_
    replace HS := ((((HS.front 3 rfl).front 3 rfl).front 3 rfl).front 3 rfl)
    refine (act_as HS hl 42 he).mono ?_
    clear HS
    rintro e w9 ⟨rfl, HS⟩
    generalize hS1 : S.act = S1 at HS
    have hS' : S1.ok := hS1 ▸ act_ok hS
    have hpn' : S1.pending.length < 1000000 := by rw [← hS1, act_pending]; exact hpn
    have hm0 : ∀ k : Nat, 0 ≤ (fun _ => 255 : Nat → Int) k ∧ (fun _ => 255 : Nat → Int) k < 256 := fun _ => ⟨by show (0 : Int) ≤ 255; decide, by show (255 : Int) < 256; decide⟩
    refine ⟨_, rfl, ?_⟩
    refine p_run _ (x_assign (.int .i64 42) rfl rfl) rfl ?_
    refine wpList_nil ?_
    refine fr_at (l' := [.pointer (some ⟨D, 0, none⟩), undef, .int .i64 0, .int .i64 42, .pointer (some ⟨D, 0, none⟩), .int .i64 42, undef, undef, undef, undef, undef]) rfl ?_
    refine hK6 _ _ ?_
    refine wp_seq_k (fun K10 hK11 => ?_)
    refine wp_seq_k (fun K12 hK13 => ?_)
    refine c_region (fun ops15 hops14 => ?_)
    clear hops14
    refine p_run _ (x_move (.int .i64 42) rfl rfl) rfl ?_
    refine p_run _ (x_cmp (k := .i64) (m := 42) (n := 0) .eql false rfl rfl rfl (by decide) rfl) rfl ?_
    refine wpList_nil ?_
    refine fr_at (l' := [.pointer (some ⟨D, 0, none⟩), undef, .int .i64 0, .int .i64 42, .pointer (some ⟨D, 0, none⟩), .int .i64 42, .int .i64 42, .bool false, undef, undef, undef]) rfl ?_
    refine hK13 _ _ ?_
    refine c_false rfl ?_
    refine wp_skip ?_
    refine hK11 _ _ ?_
    refine wp_seq_k (fun K16 hK17 => ?_)
    refine c_region (fun ops19 hops18 => ?_)
    clear hops18
    refine p_run _ (x_move (.int .i64 42) rfl rfl) rfl ?_
    refine p_run _ (x_assign (.int .i64 42) rfl rfl) rfl ?_
    refine wpList_nil ?_
    refine fr_at (l' := [.pointer (some ⟨D, 0, none⟩), undef, .int .i64 42, .int .i64 42, .pointer (some ⟨D, 0, none⟩), .int .i64 42, .int .i64 42, .bool false, undef, undef, .int .i64 42]) rfl ?_
    refine hK17 _ _ ?_
    refine wp_ret ?_
    try simp only [Exit.inBlock, Exit.then]
    refine c_ret (.int .i64 42) (r_tmp rfl rfl) ?_
    have e1 : S.sync = S1 := by unfold Dk.sync; rw [if_neg (by simp [ha])]; exact hS1
    rw [he, e1]
    exact ⟨v, rfl, ((((HS.front 3 rfl).front 3 rfl).front 3 rfl).front 3 rfl)⟩
  · skip
    have he : S.actE = 0 := by rw [actE_eq, if_pos ha]
    refine c_enter Try.func32 rfl 11 rfl [.pointer (some ⟨D, 0, none⟩), undef, undef, undef, undef, undef, undef, undef, undef, undef, undef] rfl ?_
    refine wp_seq_k (fun K1 hK2 => ?_)
    refine c_region (fun ops4 hops3 => ?_)
    clear hops3
    refine p_run _ (x_assign (.int .i64 0) rfl rfl) rfl ?_
    refine wpList_nil ?_
    refine fr_at (l' := [.pointer (some ⟨D, 0, none⟩), undef, .int .i64 0, undef, undef, undef, undef, undef, undef, undef, undef]) rfl ?_
    refine hK2 _ _ ?_
    refine wp_seq_k (fun K5 hK6 => ?_)
    refine c_region (fun ops8 hops7 => ?_)
    clear hops7
    refine p_run _ (x_move (.pointer (some ⟨D, 0, none⟩)) rfl rfl) rfl ?_
    refine w_call [.pointer (some ⟨D, 0, none⟩)] Try.func34 (by kernel_rfl) (by rfl) rfl ?_
    replace HS := ((((HS.front 3 rfl).front 3 rfl).front 3 rfl).front 3 rfl)
    refine (act_as HS hl 0 he).mono ?_
    clear HS
    rintro e w9 ⟨rfl, HS⟩
    generalize hS1 : S.act = S1 at HS
    have hS' : S1.ok := hS1 ▸ act_ok hS
    have hpn' : S1.pending.length < 1000000 := by rw [← hS1, act_pending]; exact hpn
    have hm0 : ∀ k : Nat, 0 ≤ (fun _ => 255 : Nat → Int) k ∧ (fun _ => 255 : Nat → Int) k < 256 := fun _ => ⟨by show (0 : Int) ≤ 255; decide, by show (255 : Int) < 256; decide⟩
    refine ⟨_, rfl, ?_⟩
    refine p_run _ (x_assign (.int .i64 0) rfl rfl) rfl ?_
    refine wpList_nil ?_
    refine fr_at (l' := [.pointer (some ⟨D, 0, none⟩), undef, .int .i64 0, .int .i64 0, .pointer (some ⟨D, 0, none⟩), .int .i64 0, undef, undef, undef, undef, undef]) rfl ?_
    refine hK6 _ _ ?_
    refine wp_seq_k (fun K10 hK11 => ?_)
    refine wp_seq_k (fun K12 hK13 => ?_)
    refine c_region (fun ops15 hops14 => ?_)
    clear hops14
    refine p_run _ (x_move (.int .i64 0) rfl rfl) rfl ?_
    refine p_run _ (x_cmp (k := .i64) (m := 0) (n := 0) .eql true rfl rfl rfl (by decide) rfl) rfl ?_
    refine wpList_nil ?_
    refine fr_at (l' := [.pointer (some ⟨D, 0, none⟩), undef, .int .i64 0, .int .i64 0, .pointer (some ⟨D, 0, none⟩), .int .i64 0, .int .i64 0, .bool true, undef, undef, undef]) rfl ?_
    refine hK13 _ _ ?_
    refine c_true rfl ?_
    refine c_region (fun ops17 hops16 => ?_)
    clear hops16
    refine p_run _ (x_move (.pointer (some ⟨D, 0, none⟩)) rfl rfl) rfl ?_
    refine w_call [.pointer (some ⟨D, 0, none⟩), .func (.func 50) #[] [].toArray] Try.func35 (by kernel_rfl) (by rfl) rfl ?_
    replace HS := ((((HS.front 3 rfl).front 3 rfl).front 3 rfl).front 3 rfl)
    refine (settle_any HS hS' hpn' (fun _ => 255) hm0 50 Try.f50 [] Try.func50 (by kernel_rfl) (by rfl) (fun k w X _ hx => sync1_any hx k)).mono ?_
    clear HS
    rintro e w18 ⟨v', rfl, HS⟩
    generalize hS2 : S1.settle _ = S2 at HS
    refine ⟨_, rfl, ?_⟩
    refine wpList_nil ?_
    refine fr_at (l' := [.pointer (some ⟨D, 0, none⟩), undef, .int .i64 0, .int .i64 0, .pointer (some ⟨D, 0, none⟩), .int .i64 0, .int .i64 0, .bool true, .pointer (some ⟨D, 0, none⟩), .tuple [].toArray, undef]) rfl ?_
    refine hK11 _ _ ?_
    refine wp_seq_k (fun K19 hK20 => ?_)
    refine c_region (fun ops22 hops21 => ?_)
    clear hops21
    refine p_run _ (x_move (.int .i64 0) rfl rfl) rfl ?_
    refine p_run _ (x_assign (.int .i64 0) rfl rfl) rfl ?_
    refine wpList_nil ?_
    refine fr_at (l' := [.pointer (some ⟨D, 0, none⟩), undef, .int .i64 0, .int .i64 0, .pointer (some ⟨D, 0, none⟩), .int .i64 0, .int .i64 0, .bool true, .pointer (some ⟨D, 0, none⟩), .tuple [].toArray, .int .i64 0]) rfl ?_
    refine hK20 _ _ ?_
    refine wp_ret ?_
    try simp only [Exit.inBlock, Exit.then]
    refine c_ret (.int .i64 0) (r_tmp rfl rfl) ?_
    have e1 : S.sync = S2 := by unfold Dk.sync; rw [if_pos ha, hS1]; exact hS2
    rw [he, e1]
    exact ⟨v', rfl, ((((HS.front 3 rfl).front 3 rfl).front 3 rfl).front 3 rfl)⟩

def Dk.crash (S : Dk) (keep : List Int) : Dk := { S.settle (maskOf keep) with left := -1, down := false }

set_option maxRecDepth 10000 in
theorem crash_any (HS : St w0 F W (dsk D gs gm v S L)) (hS : S.ok) (hpn : S.pending.length < 1000000) {A : Option Addr} {c : Nat} (keep : List Int) (hk0 : ∀ z ∈ keep, 0 ≤ z ∧ z < 256) (hkeep : ∀ w X, St w0 F w (X ++ L) → (Kd.int .u8).C w A keep.length keep) : Calls Try.prog 17 #[.pointer (some ⟨D, 0, none⟩), .slice A keep.length c] W fun e w' => ∃ v', e = .returned (.tuple #[]) ∧ St w0 F w' (dsk D gs gm v' (S.crash keep) L) := by
  have hm0 : ∀ k, 0 ≤ maskOf keep k ∧ maskOf keep k < 256 := by
    intro k
    unfold maskOf
    rw [List.getD_eq_getElem?_getD]
    cases h : keep[k]? with
    | none => exact ⟨by decide, by decide⟩
    | some z => exact hk0 z (List.mem_of_getElem? h)
  · skip
    refine c_enter Try.func17 rfl 13 rfl [.pointer (some ⟨D, 0, none⟩), .slice A keep.length c, undef, undef, undef, undef, undef, undef, undef, undef, undef, undef, undef] rfl ?_
    refine wp_seq_k (fun K1 hK2 => ?_)
    refine c_region (fun ops4 hops3 => ?_)
    clear hops3
    refine St.wBox HS (cs := [.slice A keep.length c]) (.slice A keep.length c) rfl rfl ?_
    clear HS
    intro g5 w6 hg7 HS
    refine wpList_nil ?_
    refine fr_at (l' := [.pointer (some ⟨D, 0, none⟩), .slice A keep.length c, undef, .pointer (some ⟨g5, 0, none⟩), undef, undef, undef, undef, undef, undef, undef, undef, undef]) rfl ?_
    refine hK2 _ _ ?_
    refine wp_seq_k (fun K8 hK9 => ?_)
    refine c_region (fun ops11 hops10 => ?_)
    clear hops10
    refine p_run _ (x_move (.pointer (some ⟨D, 0, none⟩)) rfl rfl) rfl ?_
    refine p_run _ (x_funcs [.pointer (some ⟨g5, 0, none⟩)] rfl rfl) rfl ?_
    refine w_call [.pointer (some ⟨D, 0, none⟩), .func (.func 36) #[] [.pointer (some ⟨g5, 0, none⟩)].toArray] Try.func35 (by kernel_rfl) (by rfl) rfl ?_
    replace HS := ((((HS.front 4 rfl).front 4 rfl).front 4 rfl).front 4 rfl)
    have hS' := hS
    have hpn' := hpn
    refine (settle_any HS hS' hpn' (maskOf keep) hm0 36 Try.f36 [.pointer (some ⟨g5, 0, none⟩)] Try.func36 (by kernel_rfl) (by rfl) (fun k w X hk hx => crash1_any hx (hkeep w (X ++ [_]) (by rw [List.append_assoc]; exact hx)) k (by omega))).mono ?_
    clear HS
    rintro e w12 ⟨v', rfl, HS⟩
    generalize hS2 : S.settle _ = S2 at HS
    refine ⟨_, rfl, ?_⟩
    refine wpList_nil ?_
    refine fr_at (l' := [.pointer (some ⟨D, 0, none⟩), .slice A keep.length c, undef, .pointer (some ⟨g5, 0, none⟩), .pointer (some ⟨D, 0, none⟩), .func (.func 36) #[] [.pointer (some ⟨g5, 0, none⟩)].toArray, .tuple [].toArray, undef, undef, undef, undef, undef, undef]) rfl ?_
    refine hK9 _ _ ?_
    refine c_region (fun ops14 hops13 => ?_)
    clear hops13
    refine p_run _ (x_move (.pointer (some ⟨D, 0, none⟩)) rfl rfl) rfl ?_
    refine p_run _ (x_move (.pointer (some ⟨D, 0, none⟩)) rfl rfl) rfl ?_
    refine p_run _ (x_nil rfl rfl) rfl ?_
    refine p_run (l' := [.pointer (some ⟨D, 0, none⟩), .slice A keep.length c, undef, .pointer (some ⟨g5, 0, none⟩), .pointer (some ⟨D, 0, none⟩), .func (.func 36) #[] [.pointer (some ⟨g5, 0, none⟩)].toArray, .tuple [].toArray, .pointer (some ⟨D, 0, none⟩), .pointer (some ⟨D, 0, none⟩), .pointer (some ⟨D, 0, none⟩), .pointer (some ⟨D, 3, none⟩), undef, undef]) _ (x_field (j := 3) _ _ rfl rfl Try.underlying72 rfl (by rfl) rfl) rfl ?_
    refine St.store (cs' := [.slice (some ⟨gs, 0, none⟩) S2.stable.length S2.stable.length, .map (some gm), v', .int .i64 (-1), .bool S2.down]) HS (.int .i64 (-1)) rfl rfl rfl (by kernel_rfl) (by rfl) rfl ?_
    clear HS
    intro w15 HS
    refine p_run _ (x_nil rfl rfl) rfl ?_
    refine p_run _ (x_field (j := 4) _ _ rfl rfl Try.underlying72 rfl (by rfl) rfl) rfl ?_
    refine St.store (cs' := [.slice (some ⟨gs, 0, none⟩) S2.stable.length S2.stable.length, .map (some gm), v', .int .i64 (-1), .bool false]) HS (.bool false) rfl rfl rfl (by kernel_rfl) (by rfl) rfl ?_
    clear HS
    intro w16 HS
    refine wpList_nil ?_
    refine fr_at (l' := [.pointer (some ⟨D, 0, none⟩), .slice A keep.length c, undef, .pointer (some ⟨g5, 0, none⟩), .pointer (some ⟨D, 0, none⟩), .func (.func 36) #[] [.pointer (some ⟨g5, 0, none⟩)].toArray, .tuple [].toArray, .pointer (some ⟨D, 0, none⟩), .pointer (some ⟨D, 0, none⟩), .pointer (some ⟨D, 0, none⟩), .pointer (some ⟨D, 3, none⟩), .pointer (some ⟨D, 0, none⟩), .pointer (some ⟨D, 4, none⟩)]) rfl ?_
    refine c_end (.tuple #[]) (r_none rfl) ?_
    have e1 : S.crash keep = { S2 with left := -1, down := false } := by unfold Dk.crash; rw [hS2]
    rw [e1]
    exact ⟨v', rfl, (((((HS.front 4 rfl).drop.front 3 rfl).front 3 rfl).front 3 rfl).front 3 rfl)⟩

def ats (S : Dk) (k : Nat) : List Int := (S.pending.take k).map (·.1)
theorem ats_succ {k : Nat} {x : Int × List Int} (h : S.pending[k]? = some x) : ats S (k + 1) = ats S k ++ [x.1] := by
  unfold ats
  obtain ⟨hk, rfl⟩ := List.getElem?_eq_some_iff.1 h
  rw [List.take_succ_eq_append_getElem hk, List.map_append]
  rfl

def nOf (pages : Int) : Nat := if pages < 0 then 0 else if 244 < pages then 244 else pages.toNat
def Dk.new (pages : Int) : Dk := { stable := List.replicate (nOf pages) zpg, bad := fun _ => 0, pending := [], left := -1, down := false, cnt := 0 }
theorem nOf_le (pages : Int) : nOf pages ≤ 244 := by unfold nOf; split <;> (try split) <;> omega
theorem made_pgs (n : Nat) : (madeCells (Value.agg (nums .u8 zpg).toArray).cells (n * 256)).toList = pgs (List.replicate n zpg) := by
  have h1 : (madeCells (Value.agg (nums .u8 zpg).toArray).cells (n * 256)).toList = List.replicate (n * 256) (.int .u8 0) := by
    rw [List.eq_replicate_iff]
    refine ⟨by simp [size_madeCells], fun x hx => ?_⟩
    unfold madeCells at hx
    simp only [Array.toList_map, List.mem_map] at hx
    obtain ⟨i, -, rfl⟩ := hx
    have hz : (Value.agg (nums .u8 zpg).toArray).cells = (nums .u8 zpg).toArray := rfl
    have hs : (nums .u8 zpg).toArray.size = 256 := by rw [List.size_toArray, nums_length, zlen]
    rw [hz, hs]
    have hlt : i % 256 < (nums .u8 zpg).toArray.size := by rw [hs]; omega
    rw [getElem!_pos (nums .u8 zpg).toArray (i % 256) hlt]
    simp only [List.getElem_toArray, nums, List.getElem_map, zpg, List.getElem_replicate]
  rw [h1]
  have h2 : pgs (List.replicate n zpg) = List.replicate (n * 256) (.int .u8 0) := by
    rw [List.eq_replicate_iff]
    refine ⟨by rw [pgs_length _ (fun p hp => by rw [(List.mem_replicate.1 hp).2]; exact zlen), List.length_replicate], fun x hx => ?_⟩
    unfold pgs at hx
    obtain ⟨p, hp, hx⟩ := List.mem_flatMap.1 hx
    rw [(List.mem_replicate.1 hp).2] at hx
    unfold nums zpg at hx
    obtain ⟨y, hy, rfl⟩ := List.mem_map.1 hx
    rw [(List.mem_replicate.1 hy).2]
  rw [h2]
theorem new_ok (pages : Int) : (Dk.new pages).ok := by
  refine ⟨fun p hp => ?_, ?_, by show (-1 : Int) ≤ -1; omega, by show (-1 : Int) < _; omega, fun x hx => by cases hx⟩
  · have : p ∈ List.replicate (nOf pages) zpg := hp
    rw [(List.mem_replicate.1 this).2]; exact zlen
  · show (List.replicate (nOf pages) zpg).length ≤ 244
    rw [List.length_replicate]; exact nOf_le pages

theorem max_n (pages : Int) : (if (if 244 < pages then 244 else pages) > (0 : Int) then (if 244 < pages then 244 else pages) else 0) = (nOf pages : Int) := by
  unfold nOf
  split <;> split <;> (try split) <;> omega

set_option maxRecDepth 10000 in
theorem dnew_any (HS : St w0 F W L) (pages : Int) : Calls Try.prog 8 #[.int .i64 pages] W fun e w' => ∃ D gs gm, e = .returned (.pointer (some ⟨D, 0, none⟩)) ∧ St w0 F w' (dsk D gs gm (.slice none 0 0) (Dk.new pages) L) := by
  have hnl := nOf_le pages
  · skip
    refine c_enter Try.func8 rfl 10 rfl [.int .i64 pages, undef, undef, undef, undef, undef, undef, undef, undef, undef] rfl ?_
    refine wp_seq_k (fun K1 hK2 => ?_)
    refine c_region (fun ops4 hops3 => ?_)
    clear hops3
    refine p_run _ (x_assign (.pointer none) rfl rfl) rfl ?_
    refine wpList_nil ?_
    refine fr_at (l' := [.int .i64 pages, undef, .pointer none, undef, undef, undef, undef, undef, undef, undef]) rfl ?_
    refine hK2 _ _ ?_
    refine wp_seq_k (fun K5 hK6 => ?_)
    refine c_region (fun ops8 hops7 => ?_)
    clear hops7
    refine p_run _ (x_move (.int .i64 pages) rfl rfl) rfl ?_
    refine p_run _ (x_min (m := pages) (n := 244) (if 244 < pages then 244 else pages) rfl rfl rfl rfl) rfl ?_
    refine p_run _ (x_max (m := 0) (n := if 244 < pages then 244 else pages) ((nOf pages : Int)) rfl rfl rfl (max_n pages)) rfl ?_
    refine St.wMake HS (n := (nOf pages)) (bytes := 256) (.agg ((nums .u8 zpg)).toArray) 256 Try.underlying49 (by kernel_rfl) rfl rfl (by omega) (by omega) ?_
    clear HS
    intro g9 w10 hg11 HS
    rw [made_pgs] at HS
    refine fr_to (l' := [.int .i64 pages, undef, .pointer none, .int .i64 pages, .int .i64 (if 244 < pages then 244 else pages), .int .i64 (nOf pages : Int), .slice (some ⟨g9, 0, none⟩) (nOf pages) (nOf pages), undef, undef, undef]) rfl ?_
    refine St.mapMake HS ?_
    clear HS
    intro g12 w13 hg14 HS
    refine p_run _ (x_build [.slice (some ⟨g9, 0, none⟩) (nOf pages) (nOf pages), .map (some g12), .slice none 0 0, .int .i64 (-1), .bool false] rfl (by kernel_rfl)) rfl ?_
    refine St.wBox HS (cs := [.slice (some ⟨g9, 0, none⟩) (nOf pages) (nOf pages), .map (some g12), .slice none 0 0, .int .i64 (-1), .bool false]) (.agg ([.slice (some ⟨g9, 0, none⟩) (nOf pages) (nOf pages), .map (some g12), .slice none 0 0, .int .i64 (-1), .bool false] : List Value).toArray) rfl rfl ?_
    clear HS
    intro g15 w16 hg17 HS
    refine p_run (l' := [.int .i64 pages, undef, .pointer (some ⟨g15, 0, none⟩), .int .i64 pages, .int .i64 (if 244 < pages then 244 else pages), .int .i64 (nOf pages : Int), .slice (some ⟨g9, 0, none⟩) (nOf pages) (nOf pages), .map (some g12), .agg ([.slice (some ⟨g9, 0, none⟩) (nOf pages) (nOf pages), .map (some g12), .slice none 0 0, .int .i64 (-1), .bool false] : List Value).toArray, .pointer (some ⟨g15, 0, none⟩)]) _ (x_assign (.pointer (some ⟨g15, 0, none⟩)) rfl rfl) rfl ?_
    refine wpList_nil ?_
    refine hK6 _ _ ?_
    refine wp_ret ?_
    try simp only [Exit.inBlock, Exit.then]
    refine c_ret (.pointer (some ⟨g15, 0, none⟩)) (r_tmp rfl rfl) ?_
    replace HS := HS.nil kWr rfl 78
    refine ⟨g15, g9, g12, rfl, ?_⟩
    have e1 : (Dk.new pages).stable.length = nOf pages := List.length_replicate
    show St _ _ _ (blk _ [.slice _ (Dk.new pages).stable.length (Dk.new pages).stable.length, _, _, _, _] _ :: _)
    rw [e1]
    exact (((HS.front 2 rfl).front 3 rfl).front 3 rfl)
end
end Go.Proofs.Ytenlkobjldhfgaa
