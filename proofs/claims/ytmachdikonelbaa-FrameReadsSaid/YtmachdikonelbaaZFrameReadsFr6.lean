/- frame's in.read. -/
import Derived.Test.YtmachdikonelbaaZFrameReadsFr5
set_option linter.unusedVariables false
set_option linter.unusedSimpArgs false
namespace Go.Proofs.Ytmachdikonelbaa
open Go.RowKit Go.Proofs.YtmachdikonelbaaW.PrintWords Go.Proofs.YtmachdikonelbaaW.PrintLast Crc
abbrev U4f6 (l : List Value) : List Value := undef :: undef :: undef :: undef :: l
abbrev U8f6 (l : List Value) : List Value := U4f6 (U4f6 l)
abbrev U16f6 (l : List Value) : List Value := U8f6 (U8f6 l)
abbrev U32f6 (l : List Value) : List Value := U16f6 (U16f6 l)
abbrev U64f6 (l : List Value) : List Value := U32f6 (U32f6 l)
def st1 (xs : List UInt8) : Rs := rs 1 (xs, false)
def st2 (xs : List UInt8) : Rs := rs 4 (st1 xs)
def st3 (xs : List UInt8) : Rs := rs 8 (st2 xs)
def st4 (xs : List UInt8) : Rs := rs 4 (st3 xs)
def st5 (xs : List UInt8) : Rs := rs 4 (st4 xs)
def st6 (xs : List UInt8) : Rs := rs 4 (st5 xs)
def st7 (xs : List UInt8) : Rs := rs 4 (st6 xs)
def st8 (xs : List UInt8) : Rs := rs 1 (st7 xs)
def st9 (xs : List UInt8) : Rs := rs 1 (st8 xs)
def st10 (xs : List UInt8) : Rs := rs 4 (st9 xs)
def st11 (xs : List UInt8) : Rs := rs 1 (st10 xs)
def nIt (xs : List UInt8) : Nat := upN (rn 1 (st10 xs)) 4
def stI (xs : List UInt8) (j : Nat) : List It × Rs := rdL rdIt j (st11 xs)
def st12 (xs : List UInt8) : Rs := rs 1 (stI xs (nIt xs)).2
def nHv (xs : List UInt8) : Nat := upN (rn 1 (stI xs (nIt xs)).2) 8
def stH (xs : List UInt8) (j : Nat) : List Hv × Rs := rdL rdHv j (st12 xs)
theorem rdM_eq (xs : List UInt8) : rdM xs = ⟨rn 1 (xs, false), rn 4 (st1 xs), rn 8 (st2 xs), rn 4 (st3 xs), rn 4 (st4 xs), rn 4 (st5 xs), rn 4 (st6 xs), rn 1 (st7 xs), rn 1 (st8 xs), rn 4 (st9 xs), (stI xs (nIt xs)).1, (stH xs (nHv xs)).1⟩ := rfl
theorem rdL_len {α : Type} (f : Rs → α × Rs) : ∀ (n : Nat) (s : Rs), (rdL f n s).1.length = n
  | 0, _ => rfl
  | n + 1, s => by unfold rdL; rw [List.length_append, rdL_len f n s]; rfl
theorem rdIt_len (s : Rs) : (rdIt s).1.2.2.length = 16 := pad16_len _ (tkO_len _)
theorem mn_u {x : Int} (n : Nat) (h : 0 ≤ x) : (if (n : Int) < x then (n : Int) else x) = ((upN x n : Nat) : Int) := by
  unfold upN
  split <;> omega
theorem nIt_le (xs : List UInt8) : nIt xs ≤ 4 := Nat.min_le_right _ _
theorem nHv_le (xs : List UInt8) : nHv xs ≤ 8 := Nat.min_le_right _ _
theorem wru64 {x : Int} (h : 0 ≤ x ∧ x < 18446744073709551616) : IntKind.u64.wrap x = x := by rw [IntKind.wrap_u64]; omega
section
variable {w0 W : World} {F : Nat → Prop} {L : List Res} {base R : Nat} {xs : List UInt8}
set_option maxRecDepth 10000 in
set_option maxHeartbeats 8000000 in
theorem iread_any (HS : St w0 F W (rdr base R (xs, false) :: L)) : Calls Try.prog 24 #[.agg ([.pointer (some ⟨R, 0, none⟩)] : List Value).toArray] W fun e w' => ∃ vi vh s', e = .returned (.agg #[.int .i64 (rdM xs).k, .int .u32 (rdM xs).e, .int .u64 (rdM xs).s, .int .u32 (rdM xs).te, .int .u32 (rdM xs).ts, .int .u32 (rdM xs).be, .int .u32 (rdM xs).bs, .int .i64 (rdM xs).ix, .int .i64 (rdM xs).tt, .int .u32 (rdM xs).tk, vi, vh]) ∧ St w0 F w' (row kIt rfl 53 vi (rdM xs).its :: row kHv rfl 55 vh (rdM xs).hvs :: rdr base R s' :: L) := by
  skip
  · skip
    refine c_enter Try.func24 rfl 75 rfl (.agg ([.pointer (some ⟨R, 0, none⟩)] : List Value).toArray :: U64f6 (U8f6 (undef :: undef :: []))) rfl ?_
    refine wp_seq_k (fun K1 hK2 => ?_)
    refine c_region (fun ops4 hops3 => ?_)
    clear hops3
    refine St.wBox HS (cs := [.pointer (some ⟨R, 0, none⟩)]) (.agg ([.pointer (some ⟨R, 0, none⟩)] : List Value).toArray) rfl rfl ?_
    clear HS
    intro g5 w6 hg7 HS
    refine St.wAlloc HS (cs := [.int .i64 0, .int .u32 0, .int .u64 0, .int .u32 0, .int .u32 0, .int .u32 0, .int .u32 0, .int .i64 0, .int .i64 0, .int .u32 0, .slice none 0 0, .slice none 0 0]) (.agg [.int .i64 0, .int .u32 0, .int .u64 0, .int .u32 0, .int .u32 0, .int .u32 0, .int .u32 0, .int .i64 0, .int .i64 0, .int .u32 0, .slice none 0 0, .slice none 0 0].toArray) (by kernel_rfl) rfl ?_
    clear HS
    intro g8 w9 hg10 HS
    refine wpList_nil ?_
    refine hK2 _ _ ?_
    refine wp_seq_k (fun K11 hK12 => ?_)
    refine c_region (fun ops14 hops13 => ?_)
    clear hops13
    refine St.wAlloc HS (cs := [.int .i64 0, .int .u32 0, .int .u64 0, .int .u32 0, .int .u32 0, .int .u32 0, .int .u32 0, .int .i64 0, .int .i64 0, .int .u32 0, .slice none 0 0, .slice none 0 0]) (.agg [.int .i64 0, .int .u32 0, .int .u64 0, .int .u32 0, .int .u32 0, .int .u32 0, .int .u32 0, .int .i64 0, .int .i64 0, .int .u32 0, .slice none 0 0, .slice none 0 0].toArray) (by kernel_rfl) rfl ?_
    clear HS
    intro g15 w16 hg17 HS
    refine wpList_nil ?_
    refine hK12 _ _ ?_
    refine wp_seq_k (fun K18 hK19 => ?_)
    refine c_region (fun ops21 hops20 => ?_)
    clear hops20
    refine p_run _ (x_field (j := 0) _ _ rfl rfl Try.underlying62 rfl (by rfl) rfl) rfl ?_
    refine p_run _ (x_load (.pointer (some ⟨R, 0, none⟩)) rfl rfl (bkCell (HS.get (.tail _ (.tail _ (.head _)))) 0 _ rfl) (by rfl)) rfl ?_
    refine w_call [.pointer (some ⟨R, 0, none⟩), .int .i64 1] Try.func49 (by kernel_rfl) (by rfl) rfl ?_
    replace HS := (HS.front 3 rfl)
    refine (St.num HS 1).mono ?_
    clear HS
    rintro e w22 ⟨rfl, HS⟩
    replace HS : St _ _ _ (rdr base R (st1 xs) :: _) := HS
    refine ⟨_, rfl, ?_⟩
    refine p_run (l' := (.agg ([.pointer (some ⟨R, 0, none⟩)] : List Value).toArray :: .pointer (some ⟨g5, 0, none⟩) :: .pointer (some ⟨g8, 0, none⟩) :: .pointer (some ⟨g15, 0, none⟩) :: undef :: .pointer (some ⟨g5, 0, none⟩) :: .pointer (some ⟨R, 0, none⟩) :: .int .u64 (rn 1 (xs, false)) :: .int .i64 (rn 1 (xs, false)) :: U64f6 (undef :: undef :: []))) _ (x_conv (k := .u64) (m := (rn 1 (xs, false))) .i64 ((rn 1 (xs, false))) rfl (by rw [Try.underlying27]; rfl) Try.underlying3 rfl (wr64' (by have := bd1 (xs, false); omega))) rfl ?_
    refine p_run _ (x_field (j := 0) _ _ rfl rfl Try.underlying33 rfl (by rfl) rfl) rfl ?_
    refine St.store (cs' := [.int .i64 (rn 1 (xs, false)), .int .u32 0, .int .u64 0, .int .u32 0, .int .u32 0, .int .u32 0, .int .u32 0, .int .i64 0, .int .i64 0, .int .u32 0, .slice none 0 0, .slice none 0 0]) (HS.front 1 rfl) (.int .i64 (rn 1 (xs, false))) rfl rfl rfl (by kernel_rfl) (by rfl) rfl ?_
    clear HS
    intro w23 HS
    refine wpList_nil ?_
    refine hK19 _ _ ?_
    refine wp_seq_k (fun K24 hK25 => ?_)
    refine c_region (fun ops27 hops26 => ?_)
    clear hops26
    refine p_run _ (x_field (j := 0) _ _ rfl rfl Try.underlying62 rfl (by rfl) rfl) rfl ?_
    refine p_run _ (x_load (.pointer (some ⟨R, 0, none⟩)) rfl rfl (bkCell (HS.get (.tail _ (.tail _ (.tail _ (.head _))))) 0 _ rfl) (by rfl)) rfl ?_
    refine w_call [.pointer (some ⟨R, 0, none⟩), .int .i64 4] Try.func49 (by kernel_rfl) (by rfl) rfl ?_
    replace HS := (HS.front 1 rfl)
    refine (St.num HS 4).mono ?_
    clear HS
    rintro e w28 ⟨rfl, HS⟩
    replace HS : St _ _ _ (rdr base R (st2 xs) :: _) := HS
    refine ⟨_, rfl, ?_⟩
    refine p_run _ (x_conv (k := .u64) (m := (rn 4 (st1 xs))) .u32 ((rn 4 (st1 xs))) rfl (by rw [Try.underlying27]; rfl) Try.underlying26 rfl (wu32 (bd4 _))) rfl ?_
    refine p_run _ (x_field (j := 1) _ _ rfl rfl Try.underlying33 rfl (by rfl) rfl) rfl ?_
    refine St.store (cs' := [.int .i64 (rn 1 (xs, false)), .int .u32 (rn 4 (st1 xs)), .int .u64 0, .int .u32 0, .int .u32 0, .int .u32 0, .int .u32 0, .int .i64 0, .int .i64 0, .int .u32 0, .slice none 0 0, .slice none 0 0]) (HS.front 1 rfl) (.int .u32 (rn 4 (st1 xs))) rfl rfl rfl (by kernel_rfl) (by rfl) rfl ?_
    clear HS
    intro w29 HS
    refine wpList_nil ?_
    refine fr_at (l' := (.agg ([.pointer (some ⟨R, 0, none⟩)] : List Value).toArray :: .pointer (some ⟨g5, 0, none⟩) :: .pointer (some ⟨g8, 0, none⟩) :: .pointer (some ⟨g15, 0, none⟩) :: undef :: .pointer (some ⟨g5, 0, none⟩) :: .pointer (some ⟨R, 0, none⟩) :: .int .u64 (rn 1 (xs, false)) :: .int .i64 (rn 1 (xs, false)) :: .pointer (some ⟨g15, 0, none⟩) :: .pointer (some ⟨g5, 0, none⟩) :: .pointer (some ⟨R, 0, none⟩) :: .int .u64 (rn 4 (st1 xs)) :: .int .u32 (rn 4 (st1 xs)) :: .pointer (some ⟨g15, 1, none⟩) :: U32f6 (U16f6 (U8f6 (U4f6 ([])))))) rfl ?_
    refine hK25 _ _ ?_
    refine wp_seq_k (fun K30 hK31 => ?_)
    refine c_region (fun ops33 hops32 => ?_)
    clear hops32
    refine p_run _ (x_field (j := 0) _ _ rfl rfl Try.underlying62 rfl (by rfl) rfl) rfl ?_
    refine p_run _ (x_load (.pointer (some ⟨R, 0, none⟩)) rfl rfl (bkCell (HS.get (.tail _ (.tail _ (.tail _ (.head _))))) 0 _ rfl) (by rfl)) rfl ?_
    refine w_call [.pointer (some ⟨R, 0, none⟩), .int .i64 8] Try.func49 (by kernel_rfl) (by rfl) rfl ?_
    replace HS := (HS.front 1 rfl)
    refine (St.num HS 8).mono ?_
    clear HS
    rintro e w34 ⟨rfl, HS⟩
    replace HS : St _ _ _ (rdr base R (st3 xs) :: _) := HS
    refine ⟨_, rfl, ?_⟩
    refine p_run _ (x_field (j := 2) _ _ rfl rfl Try.underlying33 rfl (by rfl) rfl) rfl ?_
    refine St.store (cs' := [.int .i64 (rn 1 (xs, false)), .int .u32 (rn 4 (st1 xs)), .int .u64 (rn 8 (st2 xs)), .int .u32 0, .int .u32 0, .int .u32 0, .int .u32 0, .int .i64 0, .int .i64 0, .int .u32 0, .slice none 0 0, .slice none 0 0]) (HS.front 1 rfl) (.int .u64 (rn 8 (st2 xs))) rfl rfl rfl (by kernel_rfl) (by rfl) rfl ?_
    clear HS
    intro w35 HS
    refine wpList_nil ?_
    refine hK31 _ _ ?_
    refine wp_seq_k (fun K36 hK37 => ?_)
    refine c_region (fun ops39 hops38 => ?_)
    clear hops38
    refine p_run _ (x_loads [.pointer (some ⟨R, 0, none⟩)] 1 rfl rfl (bkCells (HS.get (.tail _ (.tail _ (.tail _ (.head _))))) 0 _ rfl) (by rfl) (by kernel_rfl) rfl) rfl ?_
    refine w_call [.agg ([.pointer (some ⟨R, 0, none⟩)] : List Value).toArray] Try.func50 (by kernel_rfl) (by rfl) rfl ?_
    replace HS := (HS.front 1 rfl)
    refine (ilabel_any HS).mono ?_
    clear HS
    rintro e w40 ⟨rfl, HS⟩
    replace HS : St _ _ _ (rdr base R (st5 xs) :: _) := HS
    refine ⟨_, rfl, ?_⟩
    refine p_run (l' := (.agg ([.pointer (some ⟨R, 0, none⟩)] : List Value).toArray :: .pointer (some ⟨g5, 0, none⟩) :: .pointer (some ⟨g8, 0, none⟩) :: .pointer (some ⟨g15, 0, none⟩) :: undef :: .pointer (some ⟨g5, 0, none⟩) :: .pointer (some ⟨R, 0, none⟩) :: .int .u64 (rn 1 (xs, false)) :: .int .i64 (rn 1 (xs, false)) :: .pointer (some ⟨g15, 0, none⟩) :: .pointer (some ⟨g5, 0, none⟩) :: .pointer (some ⟨R, 0, none⟩) :: .int .u64 (rn 4 (st1 xs)) :: .int .u32 (rn 4 (st1 xs)) :: .pointer (some ⟨g15, 1, none⟩) :: .pointer (some ⟨g5, 0, none⟩) :: .pointer (some ⟨R, 0, none⟩) :: .int .u64 (rn 8 (st2 xs)) :: .pointer (some ⟨g15, 2, none⟩) :: .agg ([.pointer (some ⟨R, 0, none⟩)] : List Value).toArray :: .agg ([.int .u32 (rn 4 (st3 xs)), .int .u32 (rn 4 (st4 xs))] : List Value).toArray :: .pointer (some ⟨g15, 3, none⟩) :: U32f6 (U16f6 (U4f6 (undef :: []))))) _ (x_field (j := 3) _ _ rfl rfl Try.underlying33 rfl (by rfl) rfl) rfl ?_
    refine St.stores (cs' := [.int .i64 (rn 1 (xs, false)), .int .u32 (rn 4 (st1 xs)), .int .u64 (rn 8 (st2 xs)), .int .u32 (rn 4 (st3 xs)), .int .u32 (rn 4 (st4 xs)), .int .u32 0, .int .u32 0, .int .i64 0, .int .i64 0, .int .u32 0, .slice none 0 0, .slice none 0 0]) (HS.front 1 rfl) [.int .u32 (rn 4 (st3 xs)), .int .u32 (rn 4 (st4 xs))] 2 rfl rfl (by rfl) (by kernel_rfl) rfl (by simp) rfl ?_
    clear HS
    intro w41 HS
    refine wpList_nil ?_
    refine hK37 _ _ ?_
    refine wp_seq_k (fun K42 hK43 => ?_)
    refine c_region (fun ops45 hops44 => ?_)
    clear hops44
    refine p_run _ (x_loads [.pointer (some ⟨R, 0, none⟩)] 1 rfl rfl (bkCells (HS.get (.tail _ (.tail _ (.tail _ (.head _))))) 0 _ rfl) (by rfl) (by kernel_rfl) rfl) rfl ?_
    refine w_call [.agg ([.pointer (some ⟨R, 0, none⟩)] : List Value).toArray] Try.func50 (by kernel_rfl) (by rfl) rfl ?_
    replace HS := (HS.front 1 rfl)
    refine (ilabel_any HS).mono ?_
    clear HS
    rintro e w46 ⟨rfl, HS⟩
    replace HS : St _ _ _ (rdr base R (st7 xs) :: _) := HS
    refine ⟨_, rfl, ?_⟩
    refine p_run _ (x_field (j := 5) _ _ rfl rfl Try.underlying33 rfl (by rfl) rfl) rfl ?_
    refine St.stores (cs' := [.int .i64 (rn 1 (xs, false)), .int .u32 (rn 4 (st1 xs)), .int .u64 (rn 8 (st2 xs)), .int .u32 (rn 4 (st3 xs)), .int .u32 (rn 4 (st4 xs)), .int .u32 (rn 4 (st5 xs)), .int .u32 (rn 4 (st6 xs)), .int .i64 0, .int .i64 0, .int .u32 0, .slice none 0 0, .slice none 0 0]) (HS.front 1 rfl) [.int .u32 (rn 4 (st5 xs)), .int .u32 (rn 4 (st6 xs))] 2 rfl rfl (by rfl) (by kernel_rfl) rfl (by simp) rfl ?_
    clear HS
    intro w47 HS
    refine wpList_nil ?_
    refine hK43 _ _ ?_
    refine wp_seq_k (fun K48 hK49 => ?_)
    refine c_region (fun ops51 hops50 => ?_)
    clear hops50
    refine p_run _ (x_field (j := 0) _ _ rfl rfl Try.underlying62 rfl (by rfl) rfl) rfl ?_
    refine p_run _ (x_load (.pointer (some ⟨R, 0, none⟩)) rfl rfl (bkCell (HS.get (.tail _ (.tail _ (.tail _ (.head _))))) 0 _ rfl) (by rfl)) rfl ?_
    refine w_call [.pointer (some ⟨R, 0, none⟩), .int .i64 1] Try.func49 (by kernel_rfl) (by rfl) rfl ?_
    replace HS := (HS.front 1 rfl)
    refine (St.num HS 1).mono ?_
    clear HS
    rintro e w52 ⟨rfl, HS⟩
    replace HS : St _ _ _ (rdr base R (st8 xs) :: _) := HS
    refine ⟨_, rfl, ?_⟩
    refine p_run (l' := (.agg ([.pointer (some ⟨R, 0, none⟩)] : List Value).toArray :: .pointer (some ⟨g5, 0, none⟩) :: .pointer (some ⟨g8, 0, none⟩) :: .pointer (some ⟨g15, 0, none⟩) :: undef :: .pointer (some ⟨g5, 0, none⟩) :: .pointer (some ⟨R, 0, none⟩) :: .int .u64 (rn 1 (xs, false)) :: .int .i64 (rn 1 (xs, false)) :: .pointer (some ⟨g15, 0, none⟩) :: .pointer (some ⟨g5, 0, none⟩) :: .pointer (some ⟨R, 0, none⟩) :: .int .u64 (rn 4 (st1 xs)) :: .int .u32 (rn 4 (st1 xs)) :: .pointer (some ⟨g15, 1, none⟩) :: .pointer (some ⟨g5, 0, none⟩) :: .pointer (some ⟨R, 0, none⟩) :: .int .u64 (rn 8 (st2 xs)) :: .pointer (some ⟨g15, 2, none⟩) :: .agg ([.pointer (some ⟨R, 0, none⟩)] : List Value).toArray :: .agg ([.int .u32 (rn 4 (st3 xs)), .int .u32 (rn 4 (st4 xs))] : List Value).toArray :: .pointer (some ⟨g15, 3, none⟩) :: .agg ([.pointer (some ⟨R, 0, none⟩)] : List Value).toArray :: .agg ([.int .u32 (rn 4 (st5 xs)), .int .u32 (rn 4 (st6 xs))] : List Value).toArray :: .pointer (some ⟨g15, 5, none⟩) :: .pointer (some ⟨g5, 0, none⟩) :: .pointer (some ⟨R, 0, none⟩) :: .int .u64 (rn 1 (st7 xs)) :: .int .i64 (rn 1 (st7 xs)) :: U32f6 (U8f6 (U4f6 (undef :: undef :: []))))) _ (x_conv (k := .u64) (m := (rn 1 (st7 xs))) .i64 ((rn 1 (st7 xs))) rfl (by rw [Try.underlying27]; rfl) Try.underlying3 rfl (wr64' (by have := bd1 (st7 xs); omega))) rfl ?_
    refine p_run _ (x_field (j := 7) _ _ rfl rfl Try.underlying33 rfl (by rfl) rfl) rfl ?_
    refine St.store (cs' := [.int .i64 (rn 1 (xs, false)), .int .u32 (rn 4 (st1 xs)), .int .u64 (rn 8 (st2 xs)), .int .u32 (rn 4 (st3 xs)), .int .u32 (rn 4 (st4 xs)), .int .u32 (rn 4 (st5 xs)), .int .u32 (rn 4 (st6 xs)), .int .i64 (rn 1 (st7 xs)), .int .i64 0, .int .u32 0, .slice none 0 0, .slice none 0 0]) (HS.front 1 rfl) (.int .i64 (rn 1 (st7 xs))) rfl rfl rfl (by kernel_rfl) (by rfl) rfl ?_
    clear HS
    intro w53 HS
    refine wpList_nil ?_
    refine hK49 _ _ ?_
    refine wp_seq_k (fun K54 hK55 => ?_)
    refine c_region (fun ops57 hops56 => ?_)
    clear hops56
    refine p_run _ (x_field (j := 0) _ _ rfl rfl Try.underlying62 rfl (by rfl) rfl) rfl ?_
    refine p_run _ (x_load (.pointer (some ⟨R, 0, none⟩)) rfl rfl (bkCell (HS.get (.tail _ (.tail _ (.tail _ (.head _))))) 0 _ rfl) (by rfl)) rfl ?_
    refine w_call [.pointer (some ⟨R, 0, none⟩), .int .i64 1] Try.func49 (by kernel_rfl) (by rfl) rfl ?_
    replace HS := (HS.front 1 rfl)
    refine (St.num HS 1).mono ?_
    clear HS
    rintro e w58 ⟨rfl, HS⟩
    replace HS : St _ _ _ (rdr base R (st9 xs) :: _) := HS
    refine ⟨_, rfl, ?_⟩
    refine p_run _ (x_conv (k := .u64) (m := (rn 1 (st8 xs))) .i64 ((rn 1 (st8 xs))) rfl (by rw [Try.underlying27]; rfl) Try.underlying3 rfl (wr64' (by have := bd1 (st8 xs); omega))) rfl ?_
    refine p_run _ (x_field (j := 8) _ _ rfl rfl Try.underlying33 rfl (by rfl) rfl) rfl ?_
    refine St.store (cs' := [.int .i64 (rn 1 (xs, false)), .int .u32 (rn 4 (st1 xs)), .int .u64 (rn 8 (st2 xs)), .int .u32 (rn 4 (st3 xs)), .int .u32 (rn 4 (st4 xs)), .int .u32 (rn 4 (st5 xs)), .int .u32 (rn 4 (st6 xs)), .int .i64 (rn 1 (st7 xs)), .int .i64 (rn 1 (st8 xs)), .int .u32 0, .slice none 0 0, .slice none 0 0]) (HS.front 1 rfl) (.int .i64 (rn 1 (st8 xs))) rfl rfl rfl (by kernel_rfl) (by rfl) rfl ?_
    clear HS
    intro w59 HS
    refine wpList_nil ?_
    obtain ⟨qz60, hqz60⟩ : ∃ q_ : V8, q_ = ⟨.int .i64 (rn 1 (xs, false)), .pointer (some ⟨g15, 0, none⟩), .pointer (some ⟨g5, 0, none⟩), .pointer (some ⟨R, 0, none⟩), .int .u64 (rn 4 (st1 xs)), .int .u32 (rn 4 (st1 xs)), .pointer (some ⟨g15, 1, none⟩), .pointer (some ⟨g5, 0, none⟩)⟩ := ⟨_, rfl⟩
    obtain ⟨qz61, hqz61⟩ : ∃ q_ : V8, q_ = ⟨.pointer (some ⟨R, 0, none⟩), .int .u64 (rn 8 (st2 xs)), .pointer (some ⟨g15, 2, none⟩), .agg ([.pointer (some ⟨R, 0, none⟩)] : List Value).toArray, .agg ([.int .u32 (rn 4 (st3 xs)), .int .u32 (rn 4 (st4 xs))] : List Value).toArray, .pointer (some ⟨g15, 3, none⟩), .agg ([.pointer (some ⟨R, 0, none⟩)] : List Value).toArray, .agg ([.int .u32 (rn 4 (st5 xs)), .int .u32 (rn 4 (st6 xs))] : List Value).toArray⟩ := ⟨_, rfl⟩
    obtain ⟨qz62, hqz62⟩ : ∃ q_ : V8, q_ = ⟨.pointer (some ⟨g15, 5, none⟩), .pointer (some ⟨g5, 0, none⟩), .pointer (some ⟨R, 0, none⟩), .int .u64 (rn 1 (st7 xs)), .int .i64 (rn 1 (st7 xs)), .pointer (some ⟨g15, 7, none⟩), .pointer (some ⟨g5, 0, none⟩), .pointer (some ⟨R, 0, none⟩)⟩ := ⟨_, rfl⟩
    refine fr_at (l' := (.agg ([.pointer (some ⟨R, 0, none⟩)] : List Value).toArray :: .pointer (some ⟨g5, 0, none⟩) :: .pointer (some ⟨g8, 0, none⟩) :: .pointer (some ⟨g15, 0, none⟩) :: undef :: .pointer (some ⟨g5, 0, none⟩) :: .pointer (some ⟨R, 0, none⟩) :: .int .u64 (rn 1 (xs, false)) :: V8.l qz60 (V8.l qz61 (V8.l qz62 (.int .u64 (rn 1 (st8 xs)) :: .int .i64 (rn 1 (st8 xs)) :: .pointer (some ⟨g15, 8, none⟩) :: U32f6 (U8f6 ([]))))))) (by subst hqz60 hqz61 hqz62; rfl) ?_
    refine hK55 _ _ ?_
    refine wp_seq_k (fun K63 hK64 => ?_)
    refine c_region (fun ops66 hops65 => ?_)
    clear hops65
    refine p_run _ (x_field (j := 0) _ _ rfl rfl Try.underlying62 rfl (by rfl) rfl) rfl ?_
    refine p_run _ (x_load (.pointer (some ⟨R, 0, none⟩)) rfl rfl (bkCell (HS.get (.tail _ (.tail _ (.tail _ (.head _))))) 0 _ rfl) (by rfl)) rfl ?_
    refine w_call [.pointer (some ⟨R, 0, none⟩), .int .i64 4] Try.func49 (by kernel_rfl) (by rfl) rfl ?_
    replace HS := (HS.front 1 rfl)
    refine (St.num HS 4).mono ?_
    clear HS
    rintro e w67 ⟨rfl, HS⟩
    replace HS : St _ _ _ (rdr base R (st10 xs) :: _) := HS
    refine ⟨_, rfl, ?_⟩
    refine p_run _ (x_conv (k := .u64) (m := (rn 4 (st9 xs))) .u32 ((rn 4 (st9 xs))) rfl (by rw [Try.underlying27]; rfl) Try.underlying26 rfl (wu32 (bd4 _))) rfl ?_
    refine p_run _ (x_field (j := 9) _ _ rfl rfl Try.underlying33 rfl (by rfl) rfl) rfl ?_
    refine St.store (cs' := [.int .i64 (rn 1 (xs, false)), .int .u32 (rn 4 (st1 xs)), .int .u64 (rn 8 (st2 xs)), .int .u32 (rn 4 (st3 xs)), .int .u32 (rn 4 (st4 xs)), .int .u32 (rn 4 (st5 xs)), .int .u32 (rn 4 (st6 xs)), .int .i64 (rn 1 (st7 xs)), .int .i64 (rn 1 (st8 xs)), .int .u32 (rn 4 (st9 xs)), .slice none 0 0, .slice none 0 0]) (HS.front 1 rfl) (.int .u32 (rn 4 (st9 xs))) rfl rfl rfl (by kernel_rfl) (by rfl) rfl ?_
    clear HS
    intro w68 HS
    refine wpList_nil ?_
    obtain ⟨qz69, hqz69⟩ : ∃ q_ : V8, q_ = ⟨.int .u64 (rn 1 (st8 xs)), .int .i64 (rn 1 (st8 xs)), .pointer (some ⟨g15, 8, none⟩), .pointer (some ⟨g5, 0, none⟩), .pointer (some ⟨R, 0, none⟩), .int .u64 (rn 4 (st9 xs)), .int .u32 (rn 4 (st9 xs)), .pointer (some ⟨g15, 9, none⟩)⟩ := ⟨_, rfl⟩
    refine fr_at (l' := (.agg ([.pointer (some ⟨R, 0, none⟩)] : List Value).toArray :: .pointer (some ⟨g5, 0, none⟩) :: .pointer (some ⟨g8, 0, none⟩) :: .pointer (some ⟨g15, 0, none⟩) :: undef :: .pointer (some ⟨g5, 0, none⟩) :: .pointer (some ⟨R, 0, none⟩) :: .int .u64 (rn 1 (xs, false)) :: V8.l qz60 (V8.l qz61 (V8.l qz62 (V8.l qz69 (U32f6 (undef :: undef :: undef :: []))))))) (by subst hqz69; rfl) ?_
    refine hK64 _ _ ?_
    refine wp_seq_k (fun K70 hK71 => ?_)
    refine wp_seq_k (fun K72 hK73 => ?_)
    refine c_region (fun ops75 hops74 => ?_)
    clear hops74
    refine p_run _ (x_field (j := 0) _ _ rfl rfl Try.underlying62 rfl (by rfl) rfl) rfl ?_
    refine p_run _ (x_load (.pointer (some ⟨R, 0, none⟩)) rfl rfl (bkCell (HS.get (.tail _ (.tail _ (.tail _ (.head _))))) 0 _ rfl) (by rfl)) rfl ?_
    refine w_call [.pointer (some ⟨R, 0, none⟩), .int .i64 1] Try.func49 (by kernel_rfl) (by rfl) rfl ?_
    replace HS := (HS.front 1 rfl)
    refine (St.num HS 1).mono ?_
    clear HS
    rintro e w76 ⟨rfl, HS⟩
    replace HS : St _ _ _ (rdr base R (st11 xs) :: _) := HS
    refine ⟨_, rfl, ?_⟩
    refine p_run _ (x_min (m := (rn 1 (st10 xs))) (n := 4) ((nIt xs : Int)) rfl rfl rfl (mn_u 4 (bd1 _).1)) rfl ?_
    refine p_run _ (x_move (.int .u64 0) rfl rfl) rfl ?_
    refine wpList_nil ?_
    refine fr_at (l' := (.agg ([.pointer (some ⟨R, 0, none⟩)] : List Value).toArray :: .pointer (some ⟨g5, 0, none⟩) :: .pointer (some ⟨g8, 0, none⟩) :: .pointer (some ⟨g15, 0, none⟩) :: undef :: .pointer (some ⟨g5, 0, none⟩) :: .pointer (some ⟨R, 0, none⟩) :: .int .u64 (rn 1 (xs, false)) :: V8.l qz60 (V8.l qz61 (V8.l qz62 (V8.l qz69 (.pointer (some ⟨g5, 0, none⟩) :: .pointer (some ⟨R, 0, none⟩) :: .int .u64 (rn 1 (st10 xs)) :: .int .u64 (nIt xs : Int) :: .int .u64 0 :: U16f6 (U8f6 (U4f6 (undef :: undef :: []))))))))) rfl ?_
    refine hK73 _ _ ?_
    refine wp_block ?_
    replace HS := HS.nil kIt rfl 53
    refine c_loop (ι := Nat × Value) (fun i_ a_ w_ => match i_ with | (j, vi) => ∃ (u45 : Value) (u46 : Value) (u47 : Value) (u48 : Value) (u49 : Value) (u50 : Value) (u51 : Value) (u52 : Value) (u53 : Value), a_ = fr (.agg ([.pointer (some ⟨R, 0, none⟩)] : List Value).toArray :: .pointer (some ⟨g5, 0, none⟩) :: .pointer (some ⟨g8, 0, none⟩) :: .pointer (some ⟨g15, 0, none⟩) :: undef :: .pointer (some ⟨g5, 0, none⟩) :: .pointer (some ⟨R, 0, none⟩) :: .int .u64 (rn 1 (xs, false)) :: V8.l qz60 (V8.l qz61 (V8.l qz62 (V8.l qz69 (.pointer (some ⟨g5, 0, none⟩) :: .pointer (some ⟨R, 0, none⟩) :: .int .u64 (rn 1 (st10 xs)) :: .int .u64 (nIt xs : Int) :: .int .u64 (j : Int) :: u45 :: u46 :: u47 :: u48 :: u49 :: u50 :: u51 :: u52 :: u53 :: U16f6 (U4f6 (undef :: []))))))) ∧ St w0 F w_ (row kIt rfl 53 vi ((stI xs j).1) :: blk g15 [.int .i64 (rn 1 (xs, false)), .int .u32 (rn 4 (st1 xs)), .int .u64 (rn 8 (st2 xs)), .int .u32 (rn 4 (st3 xs)), .int .u32 (rn 4 (st4 xs)), .int .u32 (rn 4 (st5 xs)), .int .u32 (rn 4 (st6 xs)), .int .i64 (rn 1 (st7 xs)), .int .i64 (rn 1 (st8 xs)), .int .u32 (rn 4 (st9 xs)), vi, .slice none 0 0] 33 :: rdr base R (stI xs j).2 :: blk g8 [.int .i64 0, .int .u32 0, .int .u64 0, .int .u32 0, .int .u32 0, .int .u32 0, .int .u32 0, .int .i64 0, .int .i64 0, .int .u32 0, .slice none 0 0, .slice none 0 0] 33 :: blk g5 [.pointer (some ⟨R, 0, none⟩)] 62 :: L) ∧ (j ≤ nIt xs)) (fun i_ => match i_ with | (j, vi) => nIt xs - j) (0, .slice none 0 0) ?_ ?_
    · exact ⟨_, _, _, _, _, _, _, _, _, rfl, (((((HS.front 4 rfl).front 4 rfl).front 3 rfl).front 4 rfl).front 4 rfl), Nat.zero_le _⟩
    · clear HS
      rintro ⟨j, vi⟩ a_ w79 ⟨u45, u46, u47, u48, u49, u50, u51, u52, u53, rfl, HS, hI⟩ J77 hJ78
      have hjl := hI
      refine wp_seq_k (fun K80 hK81 => ?_)
      refine c_region (fun ops83 hops82 => ?_)
      clear hops82
      refine p_run _ (x_cmp (k := .u64) (m := (j : Int)) (n := (nIt xs : Int)) .lss (decide ((j : Int) < (nIt xs : Int))) rfl rfl rfl rfl rfl) rfl ?_
      refine wpList_nil ?_
      refine hK81 _ _ ?_
      refine wp_seq_k (fun K84 hK85 => ?_)
      refine c_cond (t := decide ((j : Int) < (nIt xs : Int))) rfl (fun hc86 => ?_) (fun hc86 => ?_)
      · have hlt : j < nIt xs := by have := of_decide_eq_true hc86; omega
        refine wp_skip ?_
        refine hK85 _ _ ?_
        refine wp_seq_k (fun K87 hK88 => ?_)
        refine wp_block ?_
        refine free_frame (n := 8) (T := _) [0, 1, 0, 4, 12, 31, 63, 127] [(0, 46), (1, 47), (2, 48), (3, 49), (4, 50), (5, 51), (6, 52)] (fun bq_ vq_ w_ => qv ((fun i_ => match i_ with | 0 => some (.pointer (some ⟨g15, 10, none⟩)) | 1 => some (vi) | 2 => some (.agg ([.pointer (some ⟨R, 0, none⟩)] : List Value).toArray) | 6 => some (.pointer (some ⟨g15, 10, none⟩)) | _ => none) : Nat → Option Value) bq_ vq_ ∧ cond (bq_ 7) (∃ (g92 : Nat) (v95 : Value), vq_ 3 = .agg (Value.int .i64 ((rdIt (stI xs j).2).1.1) :: Value.bool ((rdIt (stI xs j).2).1.2.1) :: (nums .u8 ((rdIt (stI xs j).2).1.2.2.map bv))).toArray ∧ vq_ 4 = .slice (some ⟨g92, 0, none⟩) 1 1 ∧ vq_ 5 = v95 ∧ St w0 F w_ (blk g15 [.int .i64 (rn 1 (xs, false)), .int .u32 (rn 4 (st1 xs)), .int .u64 (rn 8 (st2 xs)), .int .u32 (rn 4 (st3 xs)), .int .u32 (rn 4 (st4 xs)), .int .u32 (rn 4 (st5 xs)), .int .u32 (rn 4 (st6 xs)), .int .i64 (rn 1 (st7 xs)), .int .i64 (rn 1 (st8 xs)), .int .u32 (rn 4 (st9 xs)), v95, .slice none 0 0] 33 :: row kIt rfl 53 v95 (((stI xs j).1) ++ [(rdIt (stI xs j).2).1]) :: blk g92 (Value.int .i64 ((rdIt (stI xs j).2).1.1) :: Value.bool ((rdIt (stI xs j).2).1.2.1) :: (nums .u8 ((rdIt (stI xs j).2).1.2.2.map bv))) 53 :: rdr base R (rdIt (stI xs j).2).2 :: blk g8 [.int .i64 0, .int .u32 0, .int .u64 0, .int .u32 0, .int .u32 0, .int .u32 0, .int .u32 0, .int .i64 0, .int .i64 0, .int .u32 0, .slice none 0 0, .slice none 0 0] 33 :: blk g5 [.pointer (some ⟨R, 0, none⟩)] 62 :: L)) (cond (bq_ 5) (∃ (g92 : Nat) (v95 : Value), vq_ 3 = .agg (Value.int .i64 ((rdIt (stI xs j).2).1.1) :: Value.bool ((rdIt (stI xs j).2).1.2.1) :: (nums .u8 ((rdIt (stI xs j).2).1.2.2.map bv))).toArray ∧ vq_ 4 = .slice (some ⟨g92, 0, none⟩) 1 1 ∧ vq_ 5 = v95 ∧ St w0 F w_ (row kIt rfl 53 v95 (((stI xs j).1) ++ [(rdIt (stI xs j).2).1]) :: blk g92 (Value.int .i64 ((rdIt (stI xs j).2).1.1) :: Value.bool ((rdIt (stI xs j).2).1.2.1) :: (nums .u8 ((rdIt (stI xs j).2).1.2.2.map bv))) 53 :: rdr base R (rdIt (stI xs j).2).2 :: blk g15 [.int .i64 (rn 1 (xs, false)), .int .u32 (rn 4 (st1 xs)), .int .u64 (rn 8 (st2 xs)), .int .u32 (rn 4 (st3 xs)), .int .u32 (rn 4 (st4 xs)), .int .u32 (rn 4 (st5 xs)), .int .u32 (rn 4 (st6 xs)), .int .i64 (rn 1 (st7 xs)), .int .i64 (rn 1 (st8 xs)), .int .u32 (rn 4 (st9 xs)), vi, .slice none 0 0] 33 :: blk g8 [.int .i64 0, .int .u32 0, .int .u64 0, .int .u32 0, .int .u32 0, .int .u32 0, .int .u32 0, .int .i64 0, .int .i64 0, .int .u32 0, .slice none 0 0, .slice none 0 0] 33 :: blk g5 [.pointer (some ⟨R, 0, none⟩)] 62 :: L)) (cond (bq_ 4) (∃ (g92 : Nat), vq_ 3 = .agg (Value.int .i64 ((rdIt (stI xs j).2).1.1) :: Value.bool ((rdIt (stI xs j).2).1.2.1) :: (nums .u8 ((rdIt (stI xs j).2).1.2.2.map bv))).toArray ∧ vq_ 4 = .slice (some ⟨g92, 0, none⟩) 1 1 ∧ St w0 F w_ (blk g92 (Value.int .i64 ((rdIt (stI xs j).2).1.1) :: Value.bool ((rdIt (stI xs j).2).1.2.1) :: (nums .u8 ((rdIt (stI xs j).2).1.2.2.map bv))) 53 :: rdr base R (rdIt (stI xs j).2).2 :: row kIt rfl 53 vi ((stI xs j).1) :: blk g15 [.int .i64 (rn 1 (xs, false)), .int .u32 (rn 4 (st1 xs)), .int .u64 (rn 8 (st2 xs)), .int .u32 (rn 4 (st3 xs)), .int .u32 (rn 4 (st4 xs)), .int .u32 (rn 4 (st5 xs)), .int .u32 (rn 4 (st6 xs)), .int .i64 (rn 1 (st7 xs)), .int .i64 (rn 1 (st8 xs)), .int .u32 (rn 4 (st9 xs)), vi, .slice none 0 0] 33 :: blk g8 [.int .i64 0, .int .u32 0, .int .u64 0, .int .u32 0, .int .u32 0, .int .u32 0, .int .u32 0, .int .i64 0, .int .i64 0, .int .u32 0, .slice none 0 0, .slice none 0 0] 33 :: blk g5 [.pointer (some ⟨R, 0, none⟩)] 62 :: L)) (cond (bq_ 3) (vq_ 3 = .agg (Value.int .i64 ((rdIt (stI xs j).2).1.1) :: Value.bool ((rdIt (stI xs j).2).1.2.1) :: (nums .u8 ((rdIt (stI xs j).2).1.2.2.map bv))).toArray ∧ St w0 F w_ (rdr base R (rdIt (stI xs j).2).2 :: row kIt rfl 53 vi ((stI xs j).1) :: blk g15 [.int .i64 (rn 1 (xs, false)), .int .u32 (rn 4 (st1 xs)), .int .u64 (rn 8 (st2 xs)), .int .u32 (rn 4 (st3 xs)), .int .u32 (rn 4 (st4 xs)), .int .u32 (rn 4 (st5 xs)), .int .u32 (rn 4 (st6 xs)), .int .i64 (rn 1 (st7 xs)), .int .i64 (rn 1 (st8 xs)), .int .u32 (rn 4 (st9 xs)), vi, .slice none 0 0] 33 :: blk g8 [.int .i64 0, .int .u32 0, .int .u64 0, .int .u32 0, .int .u32 0, .int .u32 0, .int .u32 0, .int .i64 0, .int .i64 0, .int .u32 0, .slice none 0 0, .slice none 0 0] 33 :: blk g5 [.pointer (some ⟨R, 0, none⟩)] 62 :: L)) ((St w0 F w_ (row kIt rfl 53 vi ((stI xs j).1) :: blk g15 [.int .i64 (rn 1 (xs, false)), .int .u32 (rn 4 (st1 xs)), .int .u64 (rn 8 (st2 xs)), .int .u32 (rn 4 (st3 xs)), .int .u32 (rn 4 (st4 xs)), .int .u32 (rn 4 (st5 xs)), .int .u32 (rn 4 (st6 xs)), .int .i64 (rn 1 (st7 xs)), .int .i64 (rn 1 (st8 xs)), .int .u32 (rn 4 (st9 xs)), vi, .slice none 0 0] 33 :: rdr base R (stI xs j).2 :: blk g8 [.int .i64 0, .int .u32 0, .int .u64 0, .int .u32 0, .int .u32 0, .int .u32 0, .int .u32 0, .int .i64 0, .int .i64 0, .int .u32 0, .slice none 0 0, .slice none 0 0] 33 :: blk g5 [.pointer (some ⟨R, 0, none⟩)] 62 :: L))))))) (by kernel_rfl) rfl rfl (by kernel_rfl) (by kernel_rfl) rfl (by kernel_rfl) (by kernel_rfl) ⟨qv_none, HS.draw⟩ ?_ ?_
        · clear HS
          intro i_ hi_ bq_ vq_ a_ w_ hG hb_ hon hoff hfr hel hval
          obtain ⟨hV, hE⟩ := hG
          have hi_ := List.mem_range.1 hi_
          obtain ⟨l_, rfl⟩ := hfr
          have hv_ := fun (j t : Nat) (v : Value) (h1 : (j, t) ∈ [(0, 46), (1, 47), (2, 48), (3, 49), (4, 50), (5, 51), (6, 52)]) h2 h3 => (hval (j, t) h1 h3).trans (congrArg some (hV j v h2 h3))
          have hcs : i_ = 0 ∨ i_ = 1 ∨ i_ = 2 ∨ i_ = 3 ∨ i_ = 4 ∨ i_ = 5 ∨ i_ = 6 ∨ i_ = 7 := by omega
          rcases hcs with rfl | rfl | rfl | rfl | rfl | rfl | rfl | rfl
          · have e3 : evl l_ (.tmp 3) = .pointer (some ⟨g15, 0, none⟩) := evl_of ((hel 3 (by decide)).trans rfl)
            exact ⟨_, rfl, fun K_ hK_ => q_op _ (x_field (j := 10) _ _ rfl e3 Try.underlying33 rfl (by rfl) rfl) (hK_ _ _ ⟨qv_up hV (fun _ h => Option.some.inj h), hE⟩)⟩
          · rcases hq4 : bq_ 4 with _ | _
            · skip
              rcases hq3 : bq_ 3 with _ | _
              · skip
                have hE0 := hE
                rw [show bq_ 7 = false from (hoff 7 (by decide))] at hE0
                rw [show bq_ 5 = false from (hoff 5 (by decide))] at hE0
                rw [show bq_ 4 = false from hq4] at hE0
                rw [show bq_ 3 = false from hq3] at hE0
                simp only [cond_true, cond_false] at hE0
                have HS := hE0
                have e46 : evl l_ (.tmp 46) = .pointer (some ⟨g15, 10, none⟩) := evl_of (hv_ 0 46 _ (by decide) rfl (hon 0 (by decide)))
                exact ⟨_, rfl, fun K_ hK_ => q_op _ (x_load (vi) rfl e46 (bkCell (HS.get (.tail _ (.head _))) 10 _ rfl) (by rfl)) (hK_ _ _ ⟨qv_up hV (fun _ h => Option.some.inj h), hE⟩)⟩
              · have hE0 := hE
                rw [show bq_ 7 = false from (hoff 7 (by decide))] at hE0
                rw [show bq_ 5 = false from (hoff 5 (by decide))] at hE0
                rw [show bq_ 4 = false from hq4] at hE0
                rw [show bq_ 3 = true from hq3] at hE0
                simp only [cond_true, cond_false] at hE0
                obtain ⟨hv3, HS⟩ := hE0
                have e46 : evl l_ (.tmp 46) = .pointer (some ⟨g15, 10, none⟩) := evl_of (hv_ 0 46 _ (by decide) rfl (hon 0 (by decide)))
                exact ⟨_, rfl, fun K_ hK_ => q_op _ (x_load (vi) rfl e46 (bkCell (HS.get (.tail _ (.tail _ (.head _)))) 10 _ rfl) (by rfl)) (hK_ _ _ ⟨qv_up hV (fun _ h => Option.some.inj h), hE⟩)⟩
            · have hE0 := hE
              rw [show bq_ 7 = false from (hoff 7 (by decide))] at hE0
              rw [show bq_ 5 = false from (hoff 5 (by decide))] at hE0
              rw [show bq_ 4 = true from hq4] at hE0
              simp only [cond_true, cond_false] at hE0
              obtain ⟨g92, hv3, hv4, HS⟩ := hE0
              have e46 : evl l_ (.tmp 46) = .pointer (some ⟨g15, 10, none⟩) := evl_of (hv_ 0 46 _ (by decide) rfl (hon 0 (by decide)))
              exact ⟨_, rfl, fun K_ hK_ => q_op _ (x_load (vi) rfl e46 (bkCell (HS.get (.tail _ (.tail _ (.tail _ (.head _))))) 10 _ rfl) (by rfl)) (hK_ _ _ ⟨qv_up hV (fun _ h => Option.some.inj h), hE⟩)⟩
          · have hE0 := hE
            rw [show bq_ 7 = false from (hoff 7 (by decide))] at hE0
            rw [show bq_ 5 = false from (hoff 5 (by decide))] at hE0
            rw [show bq_ 4 = false from (hoff 4 (by decide))] at hE0
            rw [show bq_ 3 = false from (hoff 3 (by decide))] at hE0
            simp only [cond_true, cond_false] at hE0
            have HS := hE0
            have e1 : evl l_ (.tmp 1) = .pointer (some ⟨g5, 0, none⟩) := evl_of ((hel 1 (by decide)).trans rfl)
            exact ⟨_, rfl, fun K_ hK_ => q_op _ (x_loads [.pointer (some ⟨R, 0, none⟩)] 1 rfl e1 (bkCells (HS.get (.tail _ (.tail _ (.tail _ (.tail _ (.head _)))))) 0 _ rfl) (by rfl) (by kernel_rfl) rfl) (hK_ _ _ ⟨qv_up hV (fun _ h => Option.some.inj h), hE⟩)⟩
          · have h48 : (fr l_).tmps[48]? = some (.agg ([.pointer (some ⟨R, 0, none⟩)] : List Value).toArray) := hv_ 2 48 _ (by decide) rfl (hon 2 (by decide))
            have hE0 := hE
            rw [show bq_ 7 = false from (hoff 7 (by decide))] at hE0
            rw [show bq_ 5 = false from (hoff 5 (by decide))] at hE0
            rw [show bq_ 4 = false from (hoff 4 (by decide))] at hE0
            rw [show bq_ 3 = false from hb_] at hE0
            simp only [cond_true, cond_false] at hE0
            have HS := hE0
            have e48 : evl l_ (.tmp 48) = .agg ([.pointer (some ⟨R, 0, none⟩)] : List Value).toArray := evl_of h48
            refine ⟨_, rfl, fun K_ hK_ => wp_of_list rfl ?_⟩
            intro ops_
            refine w_call [.agg ([.pointer (some ⟨R, 0, none⟩)] : List Value).toArray] Try.func51 (by kernel_rfl) (by rfl) (by simp only [List.map_cons, List.map_nil, e48] <;> rfl) ?_
            replace HS := (HS.front 2 rfl)
            refine (iitem_any HS).mono ?_
            clear HS
            rintro e w900301 ⟨rfl, HS⟩
            refine ⟨_, rfl, ?_⟩
            refine wpList_nil ?_
            refine norm_put (hK_ (.agg (Value.int .i64 ((rdIt (stI xs j).2).1.1) :: Value.bool ((rdIt (stI xs j).2).1.2.1) :: (nums .u8 ((rdIt (stI xs j).2).1.2.2.map bv))).toArray) _ ⟨qv_up hV (by intro _ h; cases h), ?_⟩)
            show cond (bq_ 7) _ _
            rw [show bq_ 7 = false from hoff 7 (by decide), cond_false]
            show cond (bq_ 5) _ _
            rw [show bq_ 5 = false from hoff 5 (by decide), cond_false]
            show cond (bq_ 4) _ _
            rw [show bq_ 4 = false from hoff 4 (by decide), cond_false]
            show cond true _ _
            rw [cond_true]
            exact ⟨rfl, (((((HS.front 4 rfl).front 4 rfl).front 4 rfl).front 4 rfl).front 4 rfl)⟩
          · have h49 := hval (3, 49) (by decide) (hon 3 (by decide))
            have hE0 := hE
            rw [show bq_ 7 = false from (hoff 7 (by decide))] at hE0
            rw [show bq_ 5 = false from (hoff 5 (by decide))] at hE0
            rw [show bq_ 4 = false from hb_] at hE0
            rw [show bq_ 3 = true from (hon 3 (by decide))] at hE0
            simp only [cond_true, cond_false] at hE0
            obtain ⟨hv3, HS⟩ := hE0
            rw [hv3] at h49
            have e49 : evl l_ (.tmp 49) = .agg (Value.int .i64 ((rdIt (stI xs j).2).1.1) :: Value.bool ((rdIt (stI xs j).2).1.2.1) :: (nums .u8 ((rdIt (stI xs j).2).1.2.2.map bv))).toArray := evl_of h49
            refine ⟨_, rfl, fun K_ hK_ => wp_of_list rfl ?_⟩
            intro ops_
            refine St.wLit1 HS (Value.int .i64 ((rdIt (stI xs j).2).1.1) :: Value.bool ((rdIt (stI xs j).2).1.2.1) :: (nums .u8 ((rdIt (stI xs j).2).1.2.2.map bv))) 18 (.agg (Value.int .i64 0 :: Value.bool false :: (nums .u8 (zB16.map bv))).toArray) (.agg (Value.int .i64 ((rdIt (stI xs j).2).1.1) :: Value.bool ((rdIt (stI xs j).2).1.2.1) :: (nums .u8 ((rdIt (stI xs j).2).1.2.2.map bv))).toArray) Try.underlying30 (by kernel_rfl) (by decide) e49 rfl (by simp [List.length_map, nums_length, rdIt_len]) ?_
            clear HS
            intro g900401 w900402 hg900403 HS
            refine wpList_nil ?_
            refine norm_put (hK_ (.slice (some ⟨g900401, 0, none⟩) 1 1) _ ⟨qv_up hV (by intro _ h; cases h), ?_⟩)
            show cond (bq_ 7) _ _
            rw [show bq_ 7 = false from hoff 7 (by decide), cond_false]
            show cond (bq_ 5) _ _
            rw [show bq_ 5 = false from hoff 5 (by decide), cond_false]
            show cond true _ _
            rw [cond_true]
            exact ⟨g900401, hv3, rfl, ((((((HS.front 5 rfl).front 5 rfl).front 5 rfl).front 5 rfl).front 5 rfl).front 5 rfl)⟩
          · have h47 : (fr l_).tmps[47]? = some (vi) := hv_ 1 47 _ (by decide) rfl (hon 1 (by decide))
            have h50 := hval (4, 50) (by decide) (hon 4 (by decide))
            have hE0 := hE
            rw [show bq_ 7 = false from (hoff 7 (by decide))] at hE0
            rw [show bq_ 5 = false from hb_] at hE0
            rw [show bq_ 4 = true from (hon 4 (by decide))] at hE0
            simp only [cond_true, cond_false] at hE0
            obtain ⟨g92, hv3, hv4, HS⟩ := hE0
            rw [hv4] at h50
            have e47 : evl l_ (.tmp 47) = vi := evl_of h47
            have e50 : evl l_ (.tmp 50) = .slice (some ⟨g92, 0, none⟩) 1 1 := evl_of h50
            refine ⟨_, rfl, fun K_ hK_ => wp_of_list rfl ?_⟩
            intro ops_
            replace HS := (HS.front 2 rfl)
            refine St.wAppend HS ((.agg (.int .i64 0 :: .bool false :: nums .u8 (zB16.map bv)).toArray)) 32 Try.underlying30 (by kernel_rfl) (by kernel_rfl) (by decide) (by decide) [(rdIt (stI xs j).2).1] _ _ _ e47 e50 (lit_reads (HS.get (.tail _ (.head _))) ((Reps.none _ _).snoc (p := (rdIt (stI xs j).2).1) ⟨rfl, rdIt_len _⟩ (by simp [kIt, flatK, nums_length, rdIt_len])) (by simp)) (fun _ _ h => h) (by have h_ := rdL_len rdIt j (st11 xs); have := nIt_le xs; unfold stI; omega) ?_
            clear HS
            intro v900501 w900502 HS
            refine wpList_nil ?_
            refine norm_put (hK_ (v900501) _ ⟨qv_up hV (by intro _ h; cases h), ?_⟩)
            show cond (bq_ 7) _ _
            rw [show bq_ 7 = false from hoff 7 (by decide), cond_false]
            show cond true _ _
            rw [cond_true]
            exact ⟨g92, v900501, hv3, hv4, rfl, ((((((HS.front 5 rfl).front 5 rfl).front 5 rfl).front 5 rfl).front 5 rfl).front 5 rfl)⟩
          · have e3 : evl l_ (.tmp 3) = .pointer (some ⟨g15, 0, none⟩) := evl_of ((hel 3 (by decide)).trans rfl)
            exact ⟨_, rfl, fun K_ hK_ => q_op _ (x_field (j := 10) _ _ rfl e3 Try.underlying33 rfl (by rfl) rfl) (hK_ _ _ ⟨qv_up hV (fun _ h => Option.some.inj h), hE⟩)⟩
          · have h51 := hval (5, 51) (by decide) (hon 5 (by decide))
            have h52 : (fr l_).tmps[52]? = some (.pointer (some ⟨g15, 10, none⟩)) := hv_ 6 52 _ (by decide) rfl (hon 6 (by decide))
            have hE0 := hE
            rw [show bq_ 7 = false from hb_] at hE0
            rw [show bq_ 5 = true from (hon 5 (by decide))] at hE0
            simp only [cond_true, cond_false] at hE0
            obtain ⟨g92, v95, hv3, hv4, hv5, HS⟩ := hE0
            rw [hv5] at h51
            have e51 : evl l_ (.tmp 51) = v95 := evl_of h51
            have e52 : evl l_ (.tmp 52) = .pointer (some ⟨g15, 10, none⟩) := evl_of h52
            refine ⟨_, rfl, fun K_ hK_ => wp_of_list rfl ?_⟩
            intro ops_
            refine St.store (cs' := [.int .i64 (rn 1 (xs, false)), .int .u32 (rn 4 (st1 xs)), .int .u64 (rn 8 (st2 xs)), .int .u32 (rn 4 (st3 xs)), .int .u32 (rn 4 (st4 xs)), .int .u32 (rn 4 (st5 xs)), .int .u32 (rn 4 (st6 xs)), .int .i64 (rn 1 (st7 xs)), .int .i64 (rn 1 (st8 xs)), .int .u32 (rn 4 (st9 xs)), v95, .slice none 0 0]) (HS.front 3 rfl) (v95) e52 e51 (row_one (HS.get (.head _))) (by kernel_rfl) (by rfl) rfl ?_
            clear HS
            intro w900701 HS
            refine wpList_nil ?_
            refine norm_none (hK_ undef _ ⟨qv_up hV (by intro _ h; cases h), ?_⟩)
            show cond true _ _
            rw [cond_true]
            exact ⟨g92, v95, hv3, hv4, hv5, ((((((HS.front 5 rfl).front 5 rfl).front 5 rfl).front 5 rfl).front 5 rfl).front 5 rfl)⟩
        intro bq_ vq_ w_ hall hG
        obtain ⟨hV, hE⟩ := hG
        clear HS
        rw [show bq_ 7 = true from hall 7 (by decide)] at hE
        simp only [cond_true] at hE
        obtain ⟨g92, v95, hv3, hv4, hv5, HS⟩ := hE
        have hv0 := hV 0 _ rfl (hall 0 (by decide))
        have hv1 := hV 1 _ rfl (hall 1 (by decide))
        have hv2 := hV 2 _ rfl (hall 2 (by decide))
        have hv6 := hV 6 _ rfl (hall 6 (by decide))
        clear hV hall
        rw [putSel_fr]
        simp only [tells, List.map_cons, List.map_nil, setAll, List.set_cons_succ, List.set_cons_zero, hv0, hv1, hv2, hv3, hv4, hv5, hv6]
        clear hv0 hv1 hv2 hv3 hv4 hv5 hv6
        generalize w_ = w900702 at HS ⊢
        refine fr_at (l' := (.agg ([.pointer (some ⟨R, 0, none⟩)] : List Value).toArray :: .pointer (some ⟨g5, 0, none⟩) :: .pointer (some ⟨g8, 0, none⟩) :: .pointer (some ⟨g15, 0, none⟩) :: undef :: .pointer (some ⟨g5, 0, none⟩) :: .pointer (some ⟨R, 0, none⟩) :: .int .u64 (rn 1 (xs, false)) :: V8.l qz60 (V8.l qz61 (V8.l qz62 (V8.l qz69 (.pointer (some ⟨g5, 0, none⟩) :: .pointer (some ⟨R, 0, none⟩) :: .int .u64 (rn 1 (st10 xs)) :: .int .u64 (nIt xs : Int) :: .int .u64 (j : Int) :: .bool (decide ((j : Int) < (nIt xs : Int))) :: .pointer (some ⟨g15, 10, none⟩) :: vi :: .agg ([.pointer (some ⟨R, 0, none⟩)] : List Value).toArray :: .agg (Value.int .i64 ((rdIt (stI xs j).2).1.1) :: Value.bool ((rdIt (stI xs j).2).1.2.1) :: (nums .u8 ((rdIt (stI xs j).2).1.2.2.map bv))).toArray :: .slice (some ⟨g92, 0, none⟩) 1 1 :: v95 :: .pointer (some ⟨g15, 10, none⟩) :: u53 :: U16f6 (U4f6 (undef :: [])))))))) rfl ?_
        refine hK88 _ _ ?_
        refine c_region (fun ops900704 hops900703 => ?_)
        clear hops900703
        refine p_run _ (x_arith (k := .u64) (m := (j : Int)) (n := 1) .add (((j + 1 : Nat) : Int)) rfl rfl rfl (show IntKind.u64.wrap ((j : Int) + 1) = ((j + 1 : Nat) : Int) from ((wru64 (by have := nIt_le xs; omega)).trans (by omega))) rfl) rfl ?_
        refine p_run _ (x_move (.int .u64 ((j + 1 : Nat) : Int)) rfl rfl) rfl ?_
        refine wpList_nil ?_
        refine fr_at (l' := (.agg ([.pointer (some ⟨R, 0, none⟩)] : List Value).toArray :: .pointer (some ⟨g5, 0, none⟩) :: .pointer (some ⟨g8, 0, none⟩) :: .pointer (some ⟨g15, 0, none⟩) :: undef :: .pointer (some ⟨g5, 0, none⟩) :: .pointer (some ⟨R, 0, none⟩) :: .int .u64 (rn 1 (xs, false)) :: V8.l qz60 (V8.l qz61 (V8.l qz62 (V8.l qz69 (.pointer (some ⟨g5, 0, none⟩) :: .pointer (some ⟨R, 0, none⟩) :: .int .u64 (rn 1 (st10 xs)) :: .int .u64 (nIt xs : Int) :: .int .u64 ((j + 1 : Nat) : Int) :: .bool (decide ((j : Int) < (nIt xs : Int))) :: .pointer (some ⟨g15, 10, none⟩) :: vi :: .agg ([.pointer (some ⟨R, 0, none⟩)] : List Value).toArray :: .agg (Value.int .i64 ((rdIt (stI xs j).2).1.1) :: Value.bool ((rdIt (stI xs j).2).1.2.1) :: (nums .u8 ((rdIt (stI xs j).2).1.2.2.map bv))).toArray :: .slice (some ⟨g92, 0, none⟩) 1 1 :: v95 :: .pointer (some ⟨g15, 10, none⟩) :: .int .u64 ((j + 1 : Nat) : Int) :: U16f6 (U4f6 (undef :: [])))))))) rfl ?_
        refine hJ78 (j + 1, v95) _ _ ?_ ?_
        · show nIt xs - (j + 1) < nIt xs - j; omega
        · exact ⟨_, _, _, _, _, _, _, _, _, rfl, ((((((HS.front 2 rfl).drop.front 4 rfl).front 4 rfl).front 4 rfl).front 3 rfl).front 4 rfl), (by omega)⟩
      · have hlt : j = nIt xs := by have := of_decide_eq_false hc86; omega
        subst hlt
        refine wp_exit ?_
        refine hK71 _ _ ?_
        refine wp_seq_k (fun K900705 hK900706 => ?_)
        refine wp_seq_k (fun K900707 hK900708 => ?_)
        refine c_region (fun ops900710 hops900709 => ?_)
        clear hops900709
        refine p_run _ (x_field (j := 0) _ _ rfl rfl Try.underlying62 rfl (by rfl) rfl) rfl ?_
        refine p_run _ (x_load (.pointer (some ⟨R, 0, none⟩)) rfl rfl (bkCell (HS.get (.tail _ (.tail _ (.tail _ (.tail _ (.head _)))))) 0 _ rfl) (by rfl)) rfl ?_
        refine w_call [.pointer (some ⟨R, 0, none⟩), .int .i64 1] Try.func49 (by kernel_rfl) (by rfl) rfl ?_
        replace HS := (HS.front 2 rfl)
        refine (St.num HS 1).mono ?_
        clear HS
        rintro e w900711 ⟨rfl, HS⟩
        replace HS : St _ _ _ (rdr base R (st12 xs) :: _) := HS
        refine ⟨_, rfl, ?_⟩
        refine p_run _ (x_min (m := (rn 1 (stI xs (nIt xs)).2)) (n := 8) ((nHv xs : Int)) rfl rfl rfl (mn_u 8 (bd1 _).1)) rfl ?_
        refine p_run _ (x_move (.int .u64 0) rfl rfl) rfl ?_
        refine wpList_nil ?_
        obtain ⟨qz900712, hqz900712⟩ : ∃ q_ : V8, q_ = ⟨.pointer (some ⟨g5, 0, none⟩), .pointer (some ⟨R, 0, none⟩), .int .u64 (rn 1 (st10 xs)), .int .u64 (nIt xs : Int), .int .u64 ((nIt xs) : Int), .bool (decide (((nIt xs) : Int) < (nIt xs : Int))), u46, u47⟩ := ⟨_, rfl⟩
        obtain ⟨qz900713, hqz900713⟩ : ∃ q_ : V8, q_ = ⟨u48, u49, u50, u51, u52, u53, .pointer (some ⟨g5, 0, none⟩), .pointer (some ⟨R, 0, none⟩)⟩ := ⟨_, rfl⟩
        refine fr_at (l' := (.agg ([.pointer (some ⟨R, 0, none⟩)] : List Value).toArray :: .pointer (some ⟨g5, 0, none⟩) :: .pointer (some ⟨g8, 0, none⟩) :: .pointer (some ⟨g15, 0, none⟩) :: undef :: .pointer (some ⟨g5, 0, none⟩) :: .pointer (some ⟨R, 0, none⟩) :: .int .u64 (rn 1 (xs, false)) :: V8.l qz60 (V8.l qz61 (V8.l qz62 (V8.l qz69 (V8.l qz900712 (V8.l qz900713 (.int .u64 (rn 1 (stI xs (nIt xs)).2) :: .int .u64 (nHv xs : Int) :: .int .u64 0 :: U16f6 ([]))))))))) (by subst hqz900712 hqz900713; rfl) ?_
        refine hK900708 _ _ ?_
        refine wp_block ?_
        replace HS := HS.nil kHv rfl 55
        refine c_loop (ι := Nat × Value) (fun i_ a_ w_ => match i_ with | (j, vh) => ∃ (u4 : Value) (u59 : Value) (u60 : Value) (u61 : Value) (u62 : Value) (u63 : Value) (u64 : Value) (u65 : Value) (u66 : Value) (u67 : Value) (u68 : Value) (u69 : Value) (u70 : Value) (u71 : Value) (u72 : Value) (u73 : Value), a_ = fr (.agg ([.pointer (some ⟨R, 0, none⟩)] : List Value).toArray :: .pointer (some ⟨g5, 0, none⟩) :: .pointer (some ⟨g8, 0, none⟩) :: .pointer (some ⟨g15, 0, none⟩) :: u4 :: .pointer (some ⟨g5, 0, none⟩) :: .pointer (some ⟨R, 0, none⟩) :: .int .u64 (rn 1 (xs, false)) :: V8.l qz60 (V8.l qz61 (V8.l qz62 (V8.l qz69 (V8.l qz900712 (V8.l qz900713 (.int .u64 (rn 1 (stI xs (nIt xs)).2) :: .int .u64 (nHv xs : Int) :: .int .u64 (j : Int) :: u59 :: u60 :: u61 :: u62 :: u63 :: u64 :: u65 :: u66 :: u67 :: u68 :: u69 :: u70 :: u71 :: u72 :: u73 :: undef :: []))))))) ∧ St w0 F w_ (row kHv rfl 55 vh ((stH xs j).1) :: blk g15 [.int .i64 (rn 1 (xs, false)), .int .u32 (rn 4 (st1 xs)), .int .u64 (rn 8 (st2 xs)), .int .u32 (rn 4 (st3 xs)), .int .u32 (rn 4 (st4 xs)), .int .u32 (rn 4 (st5 xs)), .int .u32 (rn 4 (st6 xs)), .int .i64 (rn 1 (st7 xs)), .int .i64 (rn 1 (st8 xs)), .int .u32 (rn 4 (st9 xs)), vi, vh] 33 :: rdr base R (stH xs j).2 :: row kIt rfl 53 vi ((stI xs (nIt xs)).1) :: blk g8 [.int .i64 0, .int .u32 0, .int .u64 0, .int .u32 0, .int .u32 0, .int .u32 0, .int .u32 0, .int .i64 0, .int .i64 0, .int .u32 0, .slice none 0 0, .slice none 0 0] 33 :: blk g5 [.pointer (some ⟨R, 0, none⟩)] 62 :: L) ∧ (j ≤ nHv xs)) (fun i_ => match i_ with | (j, vh) => nHv xs - j) (0, .slice none 0 0) ?_ ?_
        · exact ⟨_, _, _, _, _, _, _, _, _, _, _, _, _, _, _, _, rfl, ((((((HS.front 5 rfl).front 5 rfl).front 4 rfl).front 4 rfl).front 5 rfl).front 5 rfl), Nat.zero_le _⟩
        · clear HS
          rintro ⟨j, vh⟩ a_ w900716 ⟨u4, u59, u60, u61, u62, u63, u64, u65, u66, u67, u68, u69, u70, u71, u72, u73, rfl, HS, hI⟩ J900714 hJ900715
          have hjl := hI
          refine wp_seq_k (fun K900717 hK900718 => ?_)
          refine c_region (fun ops900720 hops900719 => ?_)
          clear hops900719
          refine p_run _ (x_cmp (k := .u64) (m := (j : Int)) (n := (nHv xs : Int)) .lss (decide ((j : Int) < (nHv xs : Int))) rfl rfl rfl rfl rfl) rfl ?_
          refine wpList_nil ?_
          refine hK900718 _ _ ?_
          refine wp_seq_k (fun K900721 hK900722 => ?_)
          refine c_cond (t := decide ((j : Int) < (nHv xs : Int))) rfl (fun hc900723 => ?_) (fun hc900723 => ?_)
          · have hlt : j < nHv xs := by have := of_decide_eq_true hc900723; omega
            refine wp_skip ?_
            refine hK900722 _ _ ?_
            refine wp_seq_k (fun K900724 hK900725 => ?_)
            refine wp_block ?_
            refine wp_seq_k (fun K900726 hK900727 => ?_)
            refine c_region (fun ops900729 hops900728 => ?_)
            clear hops900728
            refine p_run _ (x_loads [.pointer (some ⟨R, 0, none⟩)] 1 rfl rfl (bkCells (HS.get (.tail _ (.tail _ (.tail _ (.tail _ (.tail _ (.head _))))))) 0 _ rfl) (by rfl) (by kernel_rfl) rfl) rfl ?_
            refine w_call [.agg ([.pointer (some ⟨R, 0, none⟩)] : List Value).toArray] Try.func50 (by kernel_rfl) (by rfl) rfl ?_
            replace HS := (HS.front 2 rfl)
            refine (ilabel_any HS).mono ?_
            clear HS
            rintro e w900730 ⟨rfl, HS⟩
            replace HS : St _ _ _ (rdr base R (rs 4 (rs 4 (stH xs j).2)) :: _) := HS
            refine ⟨_, rfl, ?_⟩
            refine St.wAlloc HS (cs := [.int .u32 0, .int .u32 0]) (.agg [.int .u32 0, .int .u32 0].toArray) (by kernel_rfl) rfl ?_
            clear HS
            intro g900731 w900732 hg900733 HS
            refine St.stores (cs' := [.int .u32 (rn 4 (stH xs j).2), .int .u32 (rn 4 (rs 4 (stH xs j).2))]) HS [.int .u32 (rn 4 (stH xs j).2), .int .u32 (rn 4 (rs 4 (stH xs j).2))] 2 rfl rfl (by rfl) (by kernel_rfl) rfl (by simp) rfl ?_
            clear HS
            intro w900734 HS
            refine wpList_nil ?_
            refine hK900727 _ _ ?_
            refine free_frame (n := 12) (T := _) [0, 1, 0, 0, 8, 24, 56, 124, 252, 511, 1023, 2047] [(0, 62), (1, 63), (2, 64), (3, 65), (4, 66), (5, 67), (6, 68), (7, 69), (8, 70), (9, 71), (10, 72)] (fun bq_ vq_ w_ => qv ((fun i_ => match i_ with | 0 => some (.pointer (some ⟨g15, 11, none⟩)) | 1 => some (vh) | 2 => some (.agg ([.int .u32 (rn 4 (stH xs j).2), .int .u32 (rn 4 (rs 4 (stH xs j).2))] : List Value).toArray) | 3 => some (.pointer (some ⟨g5, 0, none⟩)) | 4 => some (.pointer (some ⟨R, 0, none⟩)) | 6 => some (.int .u32 (rn 4 (rs 4 (rs 4 (stH xs j).2)))) | 7 => some (.agg ([.int .u32 (rn 4 (stH xs j).2), .int .u32 (rn 4 (rs 4 (stH xs j).2)), .int .u32 (rn 4 (rs 4 (rs 4 (stH xs j).2)))] : List Value).toArray) | 10 => some (.pointer (some ⟨g15, 11, none⟩)) | _ => none) : Nat → Option Value) bq_ vq_ ∧ cond (bq_ 11) (∃ (g900738 : Nat) (v900741 : Value), vq_ 5 = .int .u64 (rn 4 (rs 4 (rs 4 (stH xs j).2))) ∧ vq_ 8 = .slice (some ⟨g900738, 0, none⟩) 1 1 ∧ vq_ 9 = v900741 ∧ St w0 F w_ (blk g15 [.int .i64 (rn 1 (xs, false)), .int .u32 (rn 4 (st1 xs)), .int .u64 (rn 8 (st2 xs)), .int .u32 (rn 4 (st3 xs)), .int .u32 (rn 4 (st4 xs)), .int .u32 (rn 4 (st5 xs)), .int .u32 (rn 4 (st6 xs)), .int .i64 (rn 1 (st7 xs)), .int .i64 (rn 1 (st8 xs)), .int .u32 (rn 4 (st9 xs)), vi, v900741] 33 :: row kHv rfl 55 v900741 (((stH xs j).1) ++ [(rdHv (stH xs j).2).1]) :: blk g900738 [.int .u32 (rn 4 (stH xs j).2), .int .u32 (rn 4 (rs 4 (stH xs j).2)), .int .u32 (rn 4 (rs 4 (rs 4 (stH xs j).2)))] 55 :: rdr base R (rs 4 (rs 4 (rs 4 (stH xs j).2))) :: blk g900731 [.int .u32 (rn 4 (stH xs j).2), .int .u32 (rn 4 (rs 4 (stH xs j).2))] 29 :: row kIt rfl 53 vi ((stI xs (nIt xs)).1) :: blk g8 [.int .i64 0, .int .u32 0, .int .u64 0, .int .u32 0, .int .u32 0, .int .u32 0, .int .u32 0, .int .i64 0, .int .i64 0, .int .u32 0, .slice none 0 0, .slice none 0 0] 33 :: blk g5 [.pointer (some ⟨R, 0, none⟩)] 62 :: L)) (cond (bq_ 9) (∃ (g900738 : Nat) (v900741 : Value), vq_ 5 = .int .u64 (rn 4 (rs 4 (rs 4 (stH xs j).2))) ∧ vq_ 8 = .slice (some ⟨g900738, 0, none⟩) 1 1 ∧ vq_ 9 = v900741 ∧ St w0 F w_ (row kHv rfl 55 v900741 (((stH xs j).1) ++ [(rdHv (stH xs j).2).1]) :: blk g900738 [.int .u32 (rn 4 (stH xs j).2), .int .u32 (rn 4 (rs 4 (stH xs j).2)), .int .u32 (rn 4 (rs 4 (rs 4 (stH xs j).2)))] 55 :: rdr base R (rs 4 (rs 4 (rs 4 (stH xs j).2))) :: blk g900731 [.int .u32 (rn 4 (stH xs j).2), .int .u32 (rn 4 (rs 4 (stH xs j).2))] 29 :: blk g15 [.int .i64 (rn 1 (xs, false)), .int .u32 (rn 4 (st1 xs)), .int .u64 (rn 8 (st2 xs)), .int .u32 (rn 4 (st3 xs)), .int .u32 (rn 4 (st4 xs)), .int .u32 (rn 4 (st5 xs)), .int .u32 (rn 4 (st6 xs)), .int .i64 (rn 1 (st7 xs)), .int .i64 (rn 1 (st8 xs)), .int .u32 (rn 4 (st9 xs)), vi, vh] 33 :: row kIt rfl 53 vi ((stI xs (nIt xs)).1) :: blk g8 [.int .i64 0, .int .u32 0, .int .u64 0, .int .u32 0, .int .u32 0, .int .u32 0, .int .u32 0, .int .i64 0, .int .i64 0, .int .u32 0, .slice none 0 0, .slice none 0 0] 33 :: blk g5 [.pointer (some ⟨R, 0, none⟩)] 62 :: L)) (cond (bq_ 8) (∃ (g900738 : Nat), vq_ 5 = .int .u64 (rn 4 (rs 4 (rs 4 (stH xs j).2))) ∧ vq_ 8 = .slice (some ⟨g900738, 0, none⟩) 1 1 ∧ St w0 F w_ (blk g900738 [.int .u32 (rn 4 (stH xs j).2), .int .u32 (rn 4 (rs 4 (stH xs j).2)), .int .u32 (rn 4 (rs 4 (rs 4 (stH xs j).2)))] 55 :: rdr base R (rs 4 (rs 4 (rs 4 (stH xs j).2))) :: blk g900731 [.int .u32 (rn 4 (stH xs j).2), .int .u32 (rn 4 (rs 4 (stH xs j).2))] 29 :: row kHv rfl 55 vh ((stH xs j).1) :: blk g15 [.int .i64 (rn 1 (xs, false)), .int .u32 (rn 4 (st1 xs)), .int .u64 (rn 8 (st2 xs)), .int .u32 (rn 4 (st3 xs)), .int .u32 (rn 4 (st4 xs)), .int .u32 (rn 4 (st5 xs)), .int .u32 (rn 4 (st6 xs)), .int .i64 (rn 1 (st7 xs)), .int .i64 (rn 1 (st8 xs)), .int .u32 (rn 4 (st9 xs)), vi, vh] 33 :: row kIt rfl 53 vi ((stI xs (nIt xs)).1) :: blk g8 [.int .i64 0, .int .u32 0, .int .u64 0, .int .u32 0, .int .u32 0, .int .u32 0, .int .u32 0, .int .i64 0, .int .i64 0, .int .u32 0, .slice none 0 0, .slice none 0 0] 33 :: blk g5 [.pointer (some ⟨R, 0, none⟩)] 62 :: L)) (cond (bq_ 5) (vq_ 5 = .int .u64 (rn 4 (rs 4 (rs 4 (stH xs j).2))) ∧ St w0 F w_ (rdr base R (rs 4 (rs 4 (rs 4 (stH xs j).2))) :: blk g900731 [.int .u32 (rn 4 (stH xs j).2), .int .u32 (rn 4 (rs 4 (stH xs j).2))] 29 :: row kHv rfl 55 vh ((stH xs j).1) :: blk g15 [.int .i64 (rn 1 (xs, false)), .int .u32 (rn 4 (st1 xs)), .int .u64 (rn 8 (st2 xs)), .int .u32 (rn 4 (st3 xs)), .int .u32 (rn 4 (st4 xs)), .int .u32 (rn 4 (st5 xs)), .int .u32 (rn 4 (st6 xs)), .int .i64 (rn 1 (st7 xs)), .int .i64 (rn 1 (st8 xs)), .int .u32 (rn 4 (st9 xs)), vi, vh] 33 :: row kIt rfl 53 vi ((stI xs (nIt xs)).1) :: blk g8 [.int .i64 0, .int .u32 0, .int .u64 0, .int .u32 0, .int .u32 0, .int .u32 0, .int .u32 0, .int .i64 0, .int .i64 0, .int .u32 0, .slice none 0 0, .slice none 0 0] 33 :: blk g5 [.pointer (some ⟨R, 0, none⟩)] 62 :: L)) ((St w0 F w_ (blk g900731 [.int .u32 (rn 4 (stH xs j).2), .int .u32 (rn 4 (rs 4 (stH xs j).2))] 29 :: rdr base R (rs 4 (rs 4 (stH xs j).2)) :: row kHv rfl 55 vh ((stH xs j).1) :: blk g15 [.int .i64 (rn 1 (xs, false)), .int .u32 (rn 4 (st1 xs)), .int .u64 (rn 8 (st2 xs)), .int .u32 (rn 4 (st3 xs)), .int .u32 (rn 4 (st4 xs)), .int .u32 (rn 4 (st5 xs)), .int .u32 (rn 4 (st6 xs)), .int .i64 (rn 1 (st7 xs)), .int .i64 (rn 1 (st8 xs)), .int .u32 (rn 4 (st9 xs)), vi, vh] 33 :: row kIt rfl 53 vi ((stI xs (nIt xs)).1) :: blk g8 [.int .i64 0, .int .u32 0, .int .u64 0, .int .u32 0, .int .u32 0, .int .u32 0, .int .u32 0, .int .i64 0, .int .i64 0, .int .u32 0, .slice none 0 0, .slice none 0 0] 33 :: blk g5 [.pointer (some ⟨R, 0, none⟩)] 62 :: L))))))) (by kernel_rfl) rfl rfl (by kernel_rfl) (by kernel_rfl) rfl (by kernel_rfl) (by kernel_rfl) ⟨qv_none, HS.draw⟩ ?_ ?_
            · clear HS
              intro i_ hi_ bq_ vq_ a_ w_ hG hb_ hon hoff hfr hel hval
              obtain ⟨hV, hE⟩ := hG
              have hi_ := List.mem_range.1 hi_
              obtain ⟨l_, rfl⟩ := hfr
              have hv_ := fun (j t : Nat) (v : Value) (h1 : (j, t) ∈ [(0, 62), (1, 63), (2, 64), (3, 65), (4, 66), (5, 67), (6, 68), (7, 69), (8, 70), (9, 71), (10, 72)]) h2 h3 => (hval (j, t) h1 h3).trans (congrArg some (hV j v h2 h3))
              have hcs : i_ = 0 ∨ i_ = 1 ∨ i_ = 2 ∨ i_ = 3 ∨ i_ = 4 ∨ i_ = 5 ∨ i_ = 6 ∨ i_ = 7 ∨ i_ = 8 ∨ i_ = 9 ∨ i_ = 10 ∨ i_ = 11 := by omega
              rcases hcs with rfl | rfl | rfl | rfl | rfl | rfl | rfl | rfl | rfl | rfl | rfl | rfl
              · have e3 : evl l_ (.tmp 3) = .pointer (some ⟨g15, 0, none⟩) := evl_of ((hel 3 (by decide)).trans rfl)
                exact ⟨_, rfl, fun K_ hK_ => q_op _ (x_field (j := 11) _ _ rfl e3 Try.underlying33 rfl (by rfl) rfl) (hK_ _ _ ⟨qv_up hV (fun _ h => Option.some.inj h), hE⟩)⟩
              · rcases hq8 : bq_ 8 with _ | _
                · skip
                  rcases hq5 : bq_ 5 with _ | _
                  · skip
                    have hE0 := hE
                    rw [show bq_ 11 = false from (hoff 11 (by decide))] at hE0
                    rw [show bq_ 9 = false from (hoff 9 (by decide))] at hE0
                    rw [show bq_ 8 = false from hq8] at hE0
                    rw [show bq_ 5 = false from hq5] at hE0
                    simp only [cond_true, cond_false] at hE0
                    have HS := hE0
                    have e62 : evl l_ (.tmp 62) = .pointer (some ⟨g15, 11, none⟩) := evl_of (hv_ 0 62 _ (by decide) rfl (hon 0 (by decide)))
                    exact ⟨_, rfl, fun K_ hK_ => q_op _ (x_load (vh) rfl e62 (bkCell (HS.get (.tail _ (.tail _ (.tail _ (.head _))))) 11 _ rfl) (by rfl)) (hK_ _ _ ⟨qv_up hV (fun _ h => Option.some.inj h), hE⟩)⟩
                  · have hE0 := hE
                    rw [show bq_ 11 = false from (hoff 11 (by decide))] at hE0
                    rw [show bq_ 9 = false from (hoff 9 (by decide))] at hE0
                    rw [show bq_ 8 = false from hq8] at hE0
                    rw [show bq_ 5 = true from hq5] at hE0
                    simp only [cond_true, cond_false] at hE0
                    obtain ⟨hv5, HS⟩ := hE0
                    have e62 : evl l_ (.tmp 62) = .pointer (some ⟨g15, 11, none⟩) := evl_of (hv_ 0 62 _ (by decide) rfl (hon 0 (by decide)))
                    exact ⟨_, rfl, fun K_ hK_ => q_op _ (x_load (vh) rfl e62 (bkCell (HS.get (.tail _ (.tail _ (.tail _ (.head _))))) 11 _ rfl) (by rfl)) (hK_ _ _ ⟨qv_up hV (fun _ h => Option.some.inj h), hE⟩)⟩
                · have hE0 := hE
                  rw [show bq_ 11 = false from (hoff 11 (by decide))] at hE0
                  rw [show bq_ 9 = false from (hoff 9 (by decide))] at hE0
                  rw [show bq_ 8 = true from hq8] at hE0
                  simp only [cond_true, cond_false] at hE0
                  obtain ⟨g900738, hv5, hv8, HS⟩ := hE0
                  have e62 : evl l_ (.tmp 62) = .pointer (some ⟨g15, 11, none⟩) := evl_of (hv_ 0 62 _ (by decide) rfl (hon 0 (by decide)))
                  exact ⟨_, rfl, fun K_ hK_ => q_op _ (x_load (vh) rfl e62 (bkCell (HS.get (.tail _ (.tail _ (.tail _ (.tail _ (.head _)))))) 11 _ rfl) (by rfl)) (hK_ _ _ ⟨qv_up hV (fun _ h => Option.some.inj h), hE⟩)⟩
              · rcases hq5 : bq_ 5 with _ | _
                · skip
                  have hE0 := hE
                  rw [show bq_ 11 = false from (hoff 11 (by decide))] at hE0
                  rw [show bq_ 9 = false from (hoff 9 (by decide))] at hE0
                  rw [show bq_ 8 = false from (hoff 8 (by decide))] at hE0
                  rw [show bq_ 5 = false from hq5] at hE0
                  simp only [cond_true, cond_false] at hE0
                  have HS := hE0
                  have e4 : evl l_ (.tmp 4) = .pointer (some ⟨g900731, 0, none⟩) := evl_of ((hel 4 (by decide)).trans rfl)
                  exact ⟨_, rfl, fun K_ hK_ => q_op _ (x_loads [.int .u32 (rn 4 (stH xs j).2), .int .u32 (rn 4 (rs 4 (stH xs j).2))] 2 rfl e4 (bkCells (HS.get (.head _)) 0 _ rfl) (by rfl) (by kernel_rfl) rfl) (hK_ _ _ ⟨qv_up hV (fun _ h => Option.some.inj h), hE⟩)⟩
                · have hE0 := hE
                  rw [show bq_ 11 = false from (hoff 11 (by decide))] at hE0
                  rw [show bq_ 9 = false from (hoff 9 (by decide))] at hE0
                  rw [show bq_ 8 = false from (hoff 8 (by decide))] at hE0
                  rw [show bq_ 5 = true from hq5] at hE0
                  simp only [cond_true, cond_false] at hE0
                  obtain ⟨hv5, HS⟩ := hE0
                  have e4 : evl l_ (.tmp 4) = .pointer (some ⟨g900731, 0, none⟩) := evl_of ((hel 4 (by decide)).trans rfl)
                  exact ⟨_, rfl, fun K_ hK_ => q_op _ (x_loads [.int .u32 (rn 4 (stH xs j).2), .int .u32 (rn 4 (rs 4 (stH xs j).2))] 2 rfl e4 (bkCells (HS.get (.tail _ (.head _))) 0 _ rfl) (by rfl) (by kernel_rfl) rfl) (hK_ _ _ ⟨qv_up hV (fun _ h => Option.some.inj h), hE⟩)⟩
              · have e1 : evl l_ (.tmp 1) = .pointer (some ⟨g5, 0, none⟩) := evl_of ((hel 1 (by decide)).trans rfl)
                exact ⟨_, rfl, fun K_ hK_ => q_op _ (x_field (j := 0) _ _ rfl e1 Try.underlying62 rfl (by rfl) rfl) (hK_ _ _ ⟨qv_up hV (fun _ h => Option.some.inj h), hE⟩)⟩
              · have hE0 := hE
                rw [show bq_ 11 = false from (hoff 11 (by decide))] at hE0
                rw [show bq_ 9 = false from (hoff 9 (by decide))] at hE0
                rw [show bq_ 8 = false from (hoff 8 (by decide))] at hE0
                rw [show bq_ 5 = false from (hoff 5 (by decide))] at hE0
                simp only [cond_true, cond_false] at hE0
                have HS := hE0
                have e65 : evl l_ (.tmp 65) = .pointer (some ⟨g5, 0, none⟩) := evl_of (hv_ 3 65 _ (by decide) rfl (hon 3 (by decide)))
                exact ⟨_, rfl, fun K_ hK_ => q_op _ (x_load (.pointer (some ⟨R, 0, none⟩)) rfl e65 (bkCell (HS.get (.tail _ (.tail _ (.tail _ (.tail _ (.tail _ (.tail _ (.head _)))))))) 0 _ rfl) (by rfl)) (hK_ _ _ ⟨qv_up hV (fun _ h => Option.some.inj h), hE⟩)⟩
              · have h66 : (fr l_).tmps[66]? = some (.pointer (some ⟨R, 0, none⟩)) := hv_ 4 66 _ (by decide) rfl (hon 4 (by decide))
                have hE0 := hE
                rw [show bq_ 11 = false from (hoff 11 (by decide))] at hE0
                rw [show bq_ 9 = false from (hoff 9 (by decide))] at hE0
                rw [show bq_ 8 = false from (hoff 8 (by decide))] at hE0
                rw [show bq_ 5 = false from hb_] at hE0
                simp only [cond_true, cond_false] at hE0
                have HS := hE0
                have e66 : evl l_ (.tmp 66) = .pointer (some ⟨R, 0, none⟩) := evl_of h66
                refine ⟨_, rfl, fun K_ hK_ => wp_of_list rfl ?_⟩
                intro ops_
                refine w_call [.pointer (some ⟨R, 0, none⟩), .int .i64 4] Try.func49 (by kernel_rfl) (by rfl) (by simp only [List.map_cons, List.map_nil, e66] <;> rfl) ?_
                replace HS := (HS.front 1 rfl)
                refine (St.num HS 4).mono ?_
                clear HS
                rintro e w900501 ⟨rfl, HS⟩
                replace HS : St _ _ _ (rdr base R (rs 4 (rs 4 (rs 4 (stH xs j).2))) :: _) := HS
                refine ⟨_, rfl, ?_⟩
                refine wpList_nil ?_
                refine norm_put (hK_ (.int .u64 (rn 4 (rs 4 (rs 4 (stH xs j).2)))) _ ⟨qv_up hV (by intro _ h; cases h), ?_⟩)
                show cond (bq_ 11) _ _
                rw [show bq_ 11 = false from hoff 11 (by decide), cond_false]
                show cond (bq_ 9) _ _
                rw [show bq_ 9 = false from hoff 9 (by decide), cond_false]
                show cond (bq_ 8) _ _
                rw [show bq_ 8 = false from hoff 8 (by decide), cond_false]
                show cond true _ _
                rw [cond_true]
                exact ⟨rfl, (((((((HS.front 6 rfl).front 6 rfl).front 6 rfl).front 6 rfl).front 6 rfl).front 6 rfl).front 6 rfl)⟩
              · have h67 := hval (5, 67) (by decide) (hon 5 (by decide))
                have hE0 := hE
                rw [show bq_ 11 = false from (hoff 11 (by decide))] at hE0
                rw [show bq_ 9 = false from (hoff 9 (by decide))] at hE0
                rw [show bq_ 8 = false from (hoff 8 (by decide))] at hE0
                rw [show bq_ 5 = true from (hon 5 (by decide))] at hE0
                simp only [cond_true, cond_false] at hE0
                obtain ⟨hv5, HS⟩ := hE0
                rw [hv5] at h67
                have e67 : evl l_ (.tmp 67) = .int .u64 (rn 4 (rs 4 (rs 4 (stH xs j).2))) := evl_of h67
                exact ⟨_, rfl, fun K_ hK_ => q_op _ (x_conv (k := .u64) (m := (rn 4 (rs 4 (rs 4 (stH xs j).2)))) .u32 ((rn 4 (rs 4 (rs 4 (stH xs j).2)))) rfl (by rw [Try.underlying27]; rfl) Try.underlying26 e67 (wu32 (bd4 _))) (hK_ _ _ ⟨qv_up hV (fun _ h => Option.some.inj h), hE⟩)⟩
              · have e64 : evl l_ (.tmp 64) = .agg ([.int .u32 (rn 4 (stH xs j).2), .int .u32 (rn 4 (rs 4 (stH xs j).2))] : List Value).toArray := evl_of (hv_ 2 64 _ (by decide) rfl (hon 2 (by decide)))
                have e68 : evl l_ (.tmp 68) = .int .u32 (rn 4 (rs 4 (rs 4 (stH xs j).2))) := evl_of (hv_ 6 68 _ (by decide) rfl (hon 6 (by decide)))
                exact ⟨_, rfl, fun K_ hK_ => q_op _ (x_build [.int .u32 (rn 4 (stH xs j).2), .int .u32 (rn 4 (rs 4 (stH xs j).2)), .int .u32 (rn 4 (rs 4 (rs 4 (stH xs j).2)))] rfl (by show Try.prog.built 55 (Array.map (fun x : Nat × Operand => (x.1, evl l_ x.2)) #[(0, Operand.tmp 64), (1, Operand.tmp 68)]).toList = _; rw [show (Array.map (fun x : Nat × Operand => (x.1, evl l_ x.2)) #[(0, Operand.tmp 64), (1, Operand.tmp 68)]).toList = [(0, .agg ([.int .u32 (rn 4 (stH xs j).2), .int .u32 (rn 4 (rs 4 (stH xs j).2))] : List Value).toArray), (1, .int .u32 (rn 4 (rs 4 (rs 4 (stH xs j).2))))] from by simp only [List.map_toArray, List.map_cons, List.map_nil, e64, e68] <;> rfl]; kernel_rfl)) (hK_ _ _ ⟨qv_up hV (fun _ h => Option.some.inj h), hE⟩)⟩
              · have h69 : (fr l_).tmps[69]? = some (.agg ([.int .u32 (rn 4 (stH xs j).2), .int .u32 (rn 4 (rs 4 (stH xs j).2)), .int .u32 (rn 4 (rs 4 (rs 4 (stH xs j).2)))] : List Value).toArray) := hv_ 7 69 _ (by decide) rfl (hon 7 (by decide))
                have hE0 := hE
                rw [show bq_ 11 = false from (hoff 11 (by decide))] at hE0
                rw [show bq_ 9 = false from (hoff 9 (by decide))] at hE0
                rw [show bq_ 8 = false from hb_] at hE0
                rw [show bq_ 5 = true from (hon 5 (by decide))] at hE0
                simp only [cond_true, cond_false] at hE0
                obtain ⟨hv5, HS⟩ := hE0
                have e69 : evl l_ (.tmp 69) = .agg ([.int .u32 (rn 4 (stH xs j).2), .int .u32 (rn 4 (rs 4 (stH xs j).2)), .int .u32 (rn 4 (rs 4 (rs 4 (stH xs j).2)))] : List Value).toArray := evl_of h69
                refine ⟨_, rfl, fun K_ hK_ => wp_of_list rfl ?_⟩
                intro ops_
                refine St.wLit1 HS [.int .u32 (rn 4 (stH xs j).2), .int .u32 (rn 4 (rs 4 (stH xs j).2)), .int .u32 (rn 4 (rs 4 (rs 4 (stH xs j).2)))] 3 (.agg [.int .u32 0, .int .u32 0, .int .u32 0].toArray) (.agg ([.int .u32 (rn 4 (stH xs j).2), .int .u32 (rn 4 (rs 4 (stH xs j).2)), .int .u32 (rn 4 (rs 4 (rs 4 (stH xs j).2)))] : List Value).toArray) Try.underlying31 (by kernel_rfl) (by decide) e69 rfl rfl ?_
                clear HS
                intro g900801 w900802 hg900803 HS
                refine wpList_nil ?_
                refine norm_put (hK_ (.slice (some ⟨g900801, 0, none⟩) 1 1) _ ⟨qv_up hV (by intro _ h; cases h), ?_⟩)
                show cond (bq_ 11) _ _
                rw [show bq_ 11 = false from hoff 11 (by decide), cond_false]
                show cond (bq_ 9) _ _
                rw [show bq_ 9 = false from hoff 9 (by decide), cond_false]
                show cond true _ _
                rw [cond_true]
                exact ⟨g900801, hv5, rfl, ((((((((HS.front 7 rfl).front 7 rfl).front 7 rfl).front 7 rfl).front 7 rfl).front 7 rfl).front 7 rfl).front 7 rfl)⟩
              · have h63 : (fr l_).tmps[63]? = some (vh) := hv_ 1 63 _ (by decide) rfl (hon 1 (by decide))
                have h70 := hval (8, 70) (by decide) (hon 8 (by decide))
                have hE0 := hE
                rw [show bq_ 11 = false from (hoff 11 (by decide))] at hE0
                rw [show bq_ 9 = false from hb_] at hE0
                rw [show bq_ 8 = true from (hon 8 (by decide))] at hE0
                simp only [cond_true, cond_false] at hE0
                obtain ⟨g900738, hv5, hv8, HS⟩ := hE0
                rw [hv8] at h70
                have e63 : evl l_ (.tmp 63) = vh := evl_of h63
                have e70 : evl l_ (.tmp 70) = .slice (some ⟨g900738, 0, none⟩) 1 1 := evl_of h70
                refine ⟨_, rfl, fun K_ hK_ => wp_of_list rfl ?_⟩
                intro ops_
                replace HS := (HS.front 3 rfl)
                refine St.wAppend HS ((.agg #[.int .u32 0, .int .u32 0, .int .u32 0])) 12 Try.underlying31 (by kernel_rfl) (by kernel_rfl) (by decide) (by decide) [(rdHv (stH xs j).2).1] _ _ _ e63 e70 (lit_reads (HS.get (.tail _ (.head _))) ((Reps.none _ _).snoc (p := (rdHv (stH xs j).2).1) rfl rfl) (by simp)) (fun _ _ h => h) (by have h_ := rdL_len rdHv j (st12 xs); have := nHv_le xs; unfold stH; omega) ?_
                clear HS
                intro v900901 w900902 HS
                refine wpList_nil ?_
                refine norm_put (hK_ (v900901) _ ⟨qv_up hV (by intro _ h; cases h), ?_⟩)
                show cond (bq_ 11) _ _
                rw [show bq_ 11 = false from hoff 11 (by decide), cond_false]
                show cond true _ _
                rw [cond_true]
                exact ⟨g900738, v900901, hv5, hv8, rfl, ((((((((HS.front 7 rfl).front 7 rfl).front 7 rfl).front 7 rfl).front 7 rfl).front 7 rfl).front 7 rfl).front 7 rfl)⟩
              · have e3 : evl l_ (.tmp 3) = .pointer (some ⟨g15, 0, none⟩) := evl_of ((hel 3 (by decide)).trans rfl)
                exact ⟨_, rfl, fun K_ hK_ => q_op _ (x_field (j := 11) _ _ rfl e3 Try.underlying33 rfl (by rfl) rfl) (hK_ _ _ ⟨qv_up hV (fun _ h => Option.some.inj h), hE⟩)⟩
              · have h71 := hval (9, 71) (by decide) (hon 9 (by decide))
                have h72 : (fr l_).tmps[72]? = some (.pointer (some ⟨g15, 11, none⟩)) := hv_ 10 72 _ (by decide) rfl (hon 10 (by decide))
                have hE0 := hE
                rw [show bq_ 11 = false from hb_] at hE0
                rw [show bq_ 9 = true from (hon 9 (by decide))] at hE0
                simp only [cond_true, cond_false] at hE0
                obtain ⟨g900738, v900741, hv5, hv8, hv9, HS⟩ := hE0
                rw [hv9] at h71
                have e71 : evl l_ (.tmp 71) = v900741 := evl_of h71
                have e72 : evl l_ (.tmp 72) = .pointer (some ⟨g15, 11, none⟩) := evl_of h72
                refine ⟨_, rfl, fun K_ hK_ => wp_of_list rfl ?_⟩
                intro ops_
                refine St.store (cs' := [.int .i64 (rn 1 (xs, false)), .int .u32 (rn 4 (st1 xs)), .int .u64 (rn 8 (st2 xs)), .int .u32 (rn 4 (st3 xs)), .int .u32 (rn 4 (st4 xs)), .int .u32 (rn 4 (st5 xs)), .int .u32 (rn 4 (st6 xs)), .int .i64 (rn 1 (st7 xs)), .int .i64 (rn 1 (st8 xs)), .int .u32 (rn 4 (st9 xs)), vi, v900741]) (HS.front 4 rfl) (v900741) e72 e71 (row_one (HS.get (.head _))) (by kernel_rfl) (by rfl) rfl ?_
                clear HS
                intro w901101 HS
                refine wpList_nil ?_
                refine norm_none (hK_ undef _ ⟨qv_up hV (by intro _ h; cases h), ?_⟩)
                show cond true _ _
                rw [cond_true]
                exact ⟨g900738, v900741, hv5, hv8, hv9, ((((((((HS.front 7 rfl).front 7 rfl).front 7 rfl).front 7 rfl).front 7 rfl).front 7 rfl).front 7 rfl).front 7 rfl)⟩
            intro bq_ vq_ w_ hall hG
            obtain ⟨hV, hE⟩ := hG
            clear HS
            rw [show bq_ 11 = true from hall 11 (by decide)] at hE
            simp only [cond_true] at hE
            obtain ⟨g900738, v900741, hv5, hv8, hv9, HS⟩ := hE
            have hv0 := hV 0 _ rfl (hall 0 (by decide))
            have hv1 := hV 1 _ rfl (hall 1 (by decide))
            have hv2 := hV 2 _ rfl (hall 2 (by decide))
            have hv3 := hV 3 _ rfl (hall 3 (by decide))
            have hv4 := hV 4 _ rfl (hall 4 (by decide))
            have hv6 := hV 6 _ rfl (hall 6 (by decide))
            have hv7 := hV 7 _ rfl (hall 7 (by decide))
            have hv10 := hV 10 _ rfl (hall 10 (by decide))
            clear hV hall
            rw [putSel_fr]
            simp only [tells, List.map_cons, List.map_nil, setAll, List.set_cons_succ, List.set_cons_zero, hv0, hv1, hv2, hv3, hv4, hv5, hv6, hv7, hv8, hv9, hv10]
            clear hv0 hv1 hv2 hv3 hv4 hv5 hv6 hv7 hv8 hv9 hv10
            generalize w_ = w901102 at HS ⊢
            refine fr_at (l' := (.agg ([.pointer (some ⟨R, 0, none⟩)] : List Value).toArray :: .pointer (some ⟨g5, 0, none⟩) :: .pointer (some ⟨g8, 0, none⟩) :: .pointer (some ⟨g15, 0, none⟩) :: .pointer (some ⟨g900731, 0, none⟩) :: .pointer (some ⟨g5, 0, none⟩) :: .pointer (some ⟨R, 0, none⟩) :: .int .u64 (rn 1 (xs, false)) :: V8.l qz60 (V8.l qz61 (V8.l qz62 (V8.l qz69 (V8.l qz900712 (V8.l qz900713 (.int .u64 (rn 1 (stI xs (nIt xs)).2) :: .int .u64 (nHv xs : Int) :: .int .u64 (j : Int) :: .bool (decide ((j : Int) < (nHv xs : Int))) :: .agg ([.pointer (some ⟨R, 0, none⟩)] : List Value).toArray :: .agg ([.int .u32 (rn 4 (stH xs j).2), .int .u32 (rn 4 (rs 4 (stH xs j).2))] : List Value).toArray :: .pointer (some ⟨g15, 11, none⟩) :: vh :: .agg ([.int .u32 (rn 4 (stH xs j).2), .int .u32 (rn 4 (rs 4 (stH xs j).2))] : List Value).toArray :: .pointer (some ⟨g5, 0, none⟩) :: .pointer (some ⟨R, 0, none⟩) :: .int .u64 (rn 4 (rs 4 (rs 4 (stH xs j).2))) :: .int .u32 (rn 4 (rs 4 (rs 4 (stH xs j).2))) :: .agg ([.int .u32 (rn 4 (stH xs j).2), .int .u32 (rn 4 (rs 4 (stH xs j).2)), .int .u32 (rn 4 (rs 4 (rs 4 (stH xs j).2)))] : List Value).toArray :: .slice (some ⟨g900738, 0, none⟩) 1 1 :: v900741 :: .pointer (some ⟨g15, 11, none⟩) :: u73 :: undef :: [])))))))) rfl ?_
            refine hK900725 _ _ ?_
            refine c_region (fun ops901104 hops901103 => ?_)
            clear hops901103
            refine p_run _ (x_arith (k := .u64) (m := (j : Int)) (n := 1) .add (((j + 1 : Nat) : Int)) rfl rfl rfl (show IntKind.u64.wrap ((j : Int) + 1) = ((j + 1 : Nat) : Int) from ((wru64 (by have := nHv_le xs; omega)).trans (by omega))) rfl) rfl ?_
            refine p_run _ (x_move (.int .u64 ((j + 1 : Nat) : Int)) rfl rfl) rfl ?_
            refine wpList_nil ?_
            refine fr_at (l' := (.agg ([.pointer (some ⟨R, 0, none⟩)] : List Value).toArray :: .pointer (some ⟨g5, 0, none⟩) :: .pointer (some ⟨g8, 0, none⟩) :: .pointer (some ⟨g15, 0, none⟩) :: .pointer (some ⟨g900731, 0, none⟩) :: .pointer (some ⟨g5, 0, none⟩) :: .pointer (some ⟨R, 0, none⟩) :: .int .u64 (rn 1 (xs, false)) :: V8.l qz60 (V8.l qz61 (V8.l qz62 (V8.l qz69 (V8.l qz900712 (V8.l qz900713 (.int .u64 (rn 1 (stI xs (nIt xs)).2) :: .int .u64 (nHv xs : Int) :: .int .u64 ((j + 1 : Nat) : Int) :: .bool (decide ((j : Int) < (nHv xs : Int))) :: .agg ([.pointer (some ⟨R, 0, none⟩)] : List Value).toArray :: .agg ([.int .u32 (rn 4 (stH xs j).2), .int .u32 (rn 4 (rs 4 (stH xs j).2))] : List Value).toArray :: .pointer (some ⟨g15, 11, none⟩) :: vh :: .agg ([.int .u32 (rn 4 (stH xs j).2), .int .u32 (rn 4 (rs 4 (stH xs j).2))] : List Value).toArray :: .pointer (some ⟨g5, 0, none⟩) :: .pointer (some ⟨R, 0, none⟩) :: .int .u64 (rn 4 (rs 4 (rs 4 (stH xs j).2))) :: .int .u32 (rn 4 (rs 4 (rs 4 (stH xs j).2))) :: .agg ([.int .u32 (rn 4 (stH xs j).2), .int .u32 (rn 4 (rs 4 (stH xs j).2)), .int .u32 (rn 4 (rs 4 (rs 4 (stH xs j).2)))] : List Value).toArray :: .slice (some ⟨g900738, 0, none⟩) 1 1 :: v900741 :: .pointer (some ⟨g15, 11, none⟩) :: .int .u64 ((j + 1 : Nat) : Int) :: undef :: [])))))))) rfl ?_
            refine hJ900715 (j + 1, v900741) _ _ ?_ ?_
            · show nHv xs - (j + 1) < nHv xs - j; omega
            · exact ⟨_, _, _, _, _, _, _, _, _, _, _, _, _, _, _, _, rfl, ((((((((HS.front 2 rfl).drop.front 3 rfl).drop.front 5 rfl).front 5 rfl).front 5 rfl).front 5 rfl).front 4 rfl).front 5 rfl), (by omega)⟩
          · have hlt : j = nHv xs := by have := of_decide_eq_false hc900723; omega
            subst hlt
            refine wp_exit ?_
            refine hK900706 _ _ ?_
            refine wp_seq_k (fun K901105 hK901106 => ?_)
            refine c_region (fun ops901108 hops901107 => ?_)
            clear hops901107
            refine p_run _ (x_loads [.int .i64 (rn 1 (xs, false)), .int .u32 (rn 4 (st1 xs)), .int .u64 (rn 8 (st2 xs)), .int .u32 (rn 4 (st3 xs)), .int .u32 (rn 4 (st4 xs)), .int .u32 (rn 4 (st5 xs)), .int .u32 (rn 4 (st6 xs)), .int .i64 (rn 1 (st7 xs)), .int .i64 (rn 1 (st8 xs)), .int .u32 (rn 4 (st9 xs)), vi, vh] 12 rfl rfl (bkCells (HS.get (.tail _ (.head _))) 0 _ rfl) (by rfl) (by kernel_rfl) rfl) rfl ?_
            refine St.stores (cs' := [.int .i64 (rn 1 (xs, false)), .int .u32 (rn 4 (st1 xs)), .int .u64 (rn 8 (st2 xs)), .int .u32 (rn 4 (st3 xs)), .int .u32 (rn 4 (st4 xs)), .int .u32 (rn 4 (st5 xs)), .int .u32 (rn 4 (st6 xs)), .int .i64 (rn 1 (st7 xs)), .int .i64 (rn 1 (st8 xs)), .int .u32 (rn 4 (st9 xs)), vi, vh]) (HS.front 4 rfl) [.int .i64 (rn 1 (xs, false)), .int .u32 (rn 4 (st1 xs)), .int .u64 (rn 8 (st2 xs)), .int .u32 (rn 4 (st3 xs)), .int .u32 (rn 4 (st4 xs)), .int .u32 (rn 4 (st5 xs)), .int .u32 (rn 4 (st6 xs)), .int .i64 (rn 1 (st7 xs)), .int .i64 (rn 1 (st8 xs)), .int .u32 (rn 4 (st9 xs)), vi, vh] 12 rfl rfl (all1 rfl (all1 rfl (all1 rfl (all1 rfl (all1 rfl (all1 rfl (all1 rfl (all1 rfl (all1 rfl (all1 rfl (all1 (row_one (HS.get (.tail _ (.tail _ (.tail _ (.head _)))))) (all1 (row_one (HS.get (.head _))) rfl)))))))))))) (by kernel_rfl) rfl (by simp) rfl ?_
            clear HS
            intro w901109 HS
            refine wpList_nil ?_
            refine hK901106 _ _ ?_
            refine wp_ret ?_
            try simp only [Exit.inBlock, Exit.then]
            refine c_ret (.agg ([.int .i64 (rn 1 (xs, false)), .int .u32 (rn 4 (st1 xs)), .int .u64 (rn 8 (st2 xs)), .int .u32 (rn 4 (st3 xs)), .int .u32 (rn 4 (st4 xs)), .int .u32 (rn 4 (st5 xs)), .int .u32 (rn 4 (st6 xs)), .int .i64 (rn 1 (st7 xs)), .int .i64 (rn 1 (st8 xs)), .int .u32 (rn 4 (st9 xs)), vi, vh] : List Value).toArray) (r_c rfl rfl (run_loadVar_aggn (by rfl) [.int .i64 (rn 1 (xs, false)), .int .u32 (rn 4 (st1 xs)), .int .u64 (rn 8 (st2 xs)), .int .u32 (rn 4 (st3 xs)), .int .u32 (rn 4 (st4 xs)), .int .u32 (rn 4 (st5 xs)), .int .u32 (rn 4 (st6 xs)), .int .i64 (rn 1 (st7 xs)), .int .i64 (rn 1 (st8 xs)), .int .u32 (rn 4 (st9 xs)), vi, vh] 12 (by kernel_rfl) rfl (bkCells (HS.get (.head _)) 0 _ (whole _)))) ?_
            exact ⟨vi, vh, _, rfl, (((((HS.drop.front 1 rfl).drop.front 3 rfl).drop.front 1 rfl).front 1 rfl).front 2 rfl)⟩
end
end Go.Proofs.Ytmachdikonelbaa
