/- same. -/
import Derived.Test.YtckfcnclekjjdaaRf2
import Derived.Test.YtckfcnclekjjdaaArgsD
set_option linter.unusedVariables false
set_option linter.unusedSimpArgs false
namespace Go.Proofs.Ytckfcnclekjjdaa
open Go.RowKit Go.Proofs.YtckfcnclekjjdaaW.PrintWords Go.Proofs.YtckfcnclekjjdaaW.PrintLast Crc
section
variable {w0 W : World} {F : Nat → Prop} {L : List Res} {G : Nat} {v v2 : Value} {fs : List Fr_}
theorem th_len : nTh fs (fs.length : Int) = false := decide_eq_false (by omega)
theorem th_neg : nTh fs (-1) = false := decide_eq_false (by omega)
theorem row_sl {w : World} {n c : Nat} {A : Option Addr} {xs : List UInt8} {hE : kByte.E = []} (h : (row kByte hE 5 (.slice A n c) xs).holds w) : Sl w A c xs := by
  obtain ⟨A', c', hv, hs⟩ := Own.sl (row_own h)
  injection hv with h1 h2 h3
  subst h1 h3
  exact hs

set_option maxRecDepth 10000 in
set_option maxHeartbeats 1000000 in
theorem same_any (HS : St w0 F W (net G v fs (row kPk rfl 58 v2 (rp (toN fs)) :: L))) (hsm : fs.length ≤ 900) (hxs : ∀ f ∈ fs, f.2.2.length ≤ 1000000) : Calls Try.prog 35 #[.pointer (some ⟨G, 0, none⟩), v2] W fun e w' => e = .returned (.bool true) ∧ St w0 F w' (net G v fs (row kPk rfl 58 v2 (rp (toN fs)) :: L)) := by
  obtain ⟨A, c, hv2, hcap, -⟩ := row_reads (HS.get (.tail _ (.tail _ (.tail _ (.head _)))))
  rw [rp_length] at hv2 hcap
  subst hv2
  · skip
    refine c_enter Try.func35 rfl 48 rfl [.pointer (some ⟨G, 0, none⟩), .slice A ((toN fs).length) c, undef, undef, undef, undef, undef, undef, undef, undef, undef, undef, undef, undef, undef, undef, undef, undef, undef, undef, undef, undef, undef, undef, undef, undef, undef, undef, undef, undef, undef, undef, undef, undef, undef, undef, undef, undef, undef, undef, undef, undef, undef, undef, undef, undef, undef, undef] rfl ?_
    refine wp_seq_k (fun K1 hK2 => ?_)
    refine c_region (fun ops4 hops3 => ?_)
    clear hops3
    refine p_run (l' := _) _ (x_assign (.bool false) rfl rfl) rfl ?_
    refine wpList_nil ?_
    refine fr_at (l' := [.pointer (some ⟨G, 0, none⟩), .slice A ((toN fs).length) c, undef, undef, .bool false, undef, undef, undef, undef, undef, undef, undef, undef, undef, undef, undef, undef, undef, undef, undef, undef, undef, undef, undef, undef, undef, undef, undef, undef, undef, undef, undef, undef, undef, undef, undef, undef, undef, undef, undef, undef, undef, undef, undef, undef, undef, undef, undef]) rfl ?_
    refine hK2 _ _ ?_
    refine wp_seq_k (fun K5 hK6 => ?_)
    refine wp_seq_k (fun K7 hK8 => ?_)
    refine c_region (fun ops10 hops9 => ?_)
    refine p_run (l' := _) _ (x_move (.pointer (some ⟨G, 0, none⟩)) rfl rfl) rfl ?_
    refine w_call [.pointer (some ⟨G, 0, none⟩)] Try.func25 (by kernel_rfl) (by rfl) rfl ?_
    replace HS := (((HS.front 2 rfl).front 2 rfl).front 2 rfl)
    refine (nLen_any HS).mono ?_
    rintro e w' ⟨rfl, rfl⟩
    refine ⟨_, rfl, ?_⟩
    refine p_run (l' := _) _ (x_move (.slice A ((toN fs).length) c) rfl rfl) rfl ?_
    refine p_run (l' := [.pointer (some ⟨G, 0, none⟩), .slice A ((toN fs).length) c, undef, undef, .bool false, undef, undef, .pointer (some ⟨G, 0, none⟩), .int .i64 (fs.length : Int), .slice A ((toN fs).length) c, .int .i64 ((toN fs).length : Int), undef, undef, undef, undef, undef, undef, undef, undef, undef, undef, undef, undef, undef, undef, undef, undef, undef, undef, undef, undef, undef, undef, undef, undef, undef, undef, undef, undef, undef, undef, undef, undef, undef, undef, undef, undef, undef]) _ (x_len rfl rfl Try.underlying52) rfl ?_
    refine p_run (l' := _) _ (x_cmp (k := .i64) (m := (fs.length : Int)) (n := ((toN fs).length : Int)) .neq false rfl rfl rfl (by unfold cmpB; rw [toN_length]; simp) rfl) rfl ?_
    refine p_run (l' := _) _ (x_move (.bool false) rfl rfl) rfl ?_
    refine p_on rfl (by rw [hops9]; rfl) ?_
    refine p_run (l' := _) _ (x_move (.pointer (some ⟨G, 0, none⟩)) rfl rfl) rfl ?_
    refine p_on rfl (by rw [hops9]; rfl) ?_
    refine p_run (l' := [.pointer (some ⟨G, 0, none⟩), .slice A ((toN fs).length) c, undef, undef, .bool false, undef, undef, .pointer (some ⟨G, 0, none⟩), .int .i64 (fs.length : Int), .slice A ((toN fs).length) c, .int .i64 ((toN fs).length : Int), .bool false, .bool false, .pointer (some ⟨G, 0, none⟩), .slice A ((toN fs).length) c, undef, undef, undef, undef, undef, undef, undef, undef, undef, undef, undef, undef, undef, undef, undef, undef, undef, undef, undef, undef, undef, undef, undef, undef, undef, undef, undef, undef, undef, undef, undef, undef, undef]) _ (x_move (.slice A ((toN fs).length) c) rfl rfl) rfl ?_
    refine p_on rfl (by rw [hops9]; rfl) ?_
    refine p_run (l' := _) _ (x_len rfl rfl Try.underlying52) rfl ?_
    refine p_on rfl (by rw [hops9]; rfl) ?_
    refine w_call [.pointer (some ⟨G, 0, none⟩), .int .i64 ((toN fs).length : Int)] Try.func30 (by kernel_rfl) (by rfl) rfl ?_
    replace HS := (((HS.front 2 rfl).front 2 rfl).front 2 rfl)
    refine (nTo_no HS ((toN fs).length : Int) (by rw [toN_length]; exact th_len)).mono ?_
    rintro e w' ⟨rfl, rfl⟩
    refine ⟨_, rfl, ?_⟩
    refine p_on rfl (by rw [hops9]; rfl) ?_
    refine p_run (l' := _) _ (x_cmp (k := .i64) (m := (-1)) (n := -1) .neq false rfl rfl rfl (by decide) rfl) rfl ?_
    refine p_run (l' := [.pointer (some ⟨G, 0, none⟩), .slice A ((toN fs).length) c, undef, undef, .bool false, undef, undef, .pointer (some ⟨G, 0, none⟩), .int .i64 (fs.length : Int), .slice A ((toN fs).length) c, .int .i64 ((toN fs).length : Int), .bool false, .bool false, .pointer (some ⟨G, 0, none⟩), .slice A ((toN fs).length) c, .int .i64 ((toN fs).length : Int), .int .i64 (-1), .bool false, .bool false, undef, undef, undef, undef, undef, undef, undef, undef, undef, undef, undef, undef, undef, undef, undef, undef, undef, undef, undef, undef, undef, undef, undef, undef, undef, undef, undef, undef, undef]) _ (x_pick false (.bool true) (.bool false) (.bool false) rfl rfl rfl rfl rfl) rfl ?_
    refine p_run (l' := _) _ (x_move (.bool false) rfl rfl) rfl ?_
    refine p_on rfl (by rw [hops9]; rfl) ?_
    refine p_run (l' := _) _ (x_move (.pointer (some ⟨G, 0, none⟩)) rfl rfl) rfl ?_
    refine p_on rfl (by rw [hops9]; rfl) ?_
    refine w_call [.pointer (some ⟨G, 0, none⟩), .int .i64 (-1)] Try.func28 (by kernel_rfl) (by rfl) rfl ?_
    replace HS := (((HS.front 2 rfl).front 2 rfl).front 2 rfl)
    refine (nPeek_no HS (-1) th_neg).mono ?_
    rintro e w' ⟨rfl, rfl⟩
    refine ⟨_, rfl, ?_⟩
    refine p_on rfl (by rw [hops9]; rfl) ?_
    refine p_run (l' := [.pointer (some ⟨G, 0, none⟩), .slice A ((toN fs).length) c, undef, undef, .bool false, undef, undef, .pointer (some ⟨G, 0, none⟩), .int .i64 (fs.length : Int), .slice A ((toN fs).length) c, .int .i64 ((toN fs).length : Int), .bool false, .bool false, .pointer (some ⟨G, 0, none⟩), .slice A ((toN fs).length) c, .int .i64 ((toN fs).length : Int), .int .i64 (-1), .bool false, .bool false, .bool false, .pointer (some ⟨G, 0, none⟩), .slice none 0 0, .int .i64 0, undef, undef, undef, undef, undef, undef, undef, undef, undef, undef, undef, undef, undef, undef, undef, undef, undef, undef, undef, undef, undef, undef, undef, undef, undef]) _ (x_len rfl rfl Try.underlying24) rfl ?_
    refine p_on rfl (by rw [hops9]; rfl) ?_
    refine p_run (l' := _) _ (x_cmp (k := .i64) (m := 0) (n := 0) .neq false rfl rfl rfl (by decide) rfl) rfl ?_
    refine p_run (l' := _) _ (x_pick false (.bool true) (.bool false) (.bool false) rfl rfl rfl rfl rfl) rfl ?_
    clear hops9
    refine wpList_nil ?_
    refine fr_at (l' := [.pointer (some ⟨G, 0, none⟩), .slice A ((toN fs).length) c, undef, undef, .bool false, undef, undef, .pointer (some ⟨G, 0, none⟩), .int .i64 (fs.length : Int), .slice A ((toN fs).length) c, .int .i64 ((toN fs).length : Int), .bool false, .bool false, .pointer (some ⟨G, 0, none⟩), .slice A ((toN fs).length) c, .int .i64 ((toN fs).length : Int), .int .i64 (-1), .bool false, .bool false, .bool false, .pointer (some ⟨G, 0, none⟩), .slice none 0 0, .int .i64 0, .bool false, .bool false, undef, undef, undef, undef, undef, undef, undef, undef, undef, undef, undef, undef, undef, undef, undef, undef, undef, undef, undef, undef, undef, undef, undef]) rfl ?_
    refine hK8 _ _ ?_
    refine c_false rfl ?_
    refine wp_skip ?_
    refine hK6 _ _ ?_
    refine wp_seq_k (fun K11 hK12 => ?_)
    refine wp_seq_k (fun K13 hK14 => ?_)
    refine c_region (fun ops16 hops15 => ?_)
    clear hops15
    refine p_run (l' := _) _ (x_move (.slice A ((toN fs).length) c) rfl rfl) rfl ?_
    refine p_run (l' := _) _ (x_len rfl rfl Try.underlying52) rfl ?_
    refine p_run (l' := _) _ (x_move (.int .i64 0) rfl rfl) rfl ?_
    refine wpList_nil ?_
    refine fr_at (l' := [.pointer (some ⟨G, 0, none⟩), .slice A ((toN fs).length) c, undef, undef, .bool false, undef, undef, .pointer (some ⟨G, 0, none⟩), .int .i64 (fs.length : Int), .slice A ((toN fs).length) c, .int .i64 ((toN fs).length : Int), .bool false, .bool false, .pointer (some ⟨G, 0, none⟩), .slice A ((toN fs).length) c, .int .i64 ((toN fs).length : Int), .int .i64 (-1), .bool false, .bool false, .bool false, .pointer (some ⟨G, 0, none⟩), .slice none 0 0, .int .i64 0, .bool false, .bool false, .slice A ((toN fs).length) c, .int .i64 ((toN fs).length : Int), .int .i64 0, undef, undef, undef, undef, undef, undef, undef, undef, undef, undef, undef, undef, undef, undef, undef, undef, undef, undef, undef, undef]) rfl ?_
    refine hK14 _ _ ?_
    refine wp_block ?_
    refine c_loop (ι := Nat) (fun i_ a_ w_ => match i_ with | k => ∃ (u4 : Value) (u5 : Value) (u6 : Value) (u28 : Value) (u29 : Value) (u30 : Value) (u31 : Value) (u32 : Value) (u33 : Value) (u34 : Value) (u35 : Value) (u36 : Value) (u37 : Value) (u38 : Value) (u39 : Value) (u40 : Value) (u41 : Value) (u42 : Value) (u43 : Value) (u44 : Value) (u45 : Value) (u46 : Value) (u47 : Value), a_ = fr [.pointer (some ⟨G, 0, none⟩), .slice A ((toN fs).length) c, undef, undef, u4, u5, u6, .pointer (some ⟨G, 0, none⟩), .int .i64 (fs.length : Int), .slice A ((toN fs).length) c, .int .i64 ((toN fs).length : Int), .bool false, .bool false, .pointer (some ⟨G, 0, none⟩), .slice A ((toN fs).length) c, .int .i64 ((toN fs).length : Int), .int .i64 (-1), .bool false, .bool false, .bool false, .pointer (some ⟨G, 0, none⟩), .slice none 0 0, .int .i64 0, .bool false, .bool false, .slice A ((toN fs).length) c, .int .i64 ((toN fs).length : Int), .int .i64 (k : Int), u28, u29, u30, u31, u32, u33, u34, u35, u36, u37, u38, u39, u40, u41, u42, u43, u44, u45, u46, u47] ∧ St w0 F w_ (blk G [v] 72 :: row kPk rfl 75 v (pk fs) :: allR (frs fs) :: row kPk rfl 58 (.slice A ((toN fs).length) c) (rp (toN fs)) :: L) ∧ (k ≤ fs.length)) (fun i_ => match i_ with | k => fs.length - k) 0 ?_ ?_
    · exact ⟨_, _, _, _, _, _, _, _, _, _, _, _, _, _, _, _, _, _, _, _, _, _, _, rfl, ((((HS.front 3 rfl).front 3 rfl).front 3 rfl).front 3 rfl), Nat.zero_le _⟩
    · clear HS
      rintro k a_ w19 ⟨u4, u5, u6, u28, u29, u30, u31, u32, u33, u34, u35, u36, u37, u38, u39, u40, u41, u42, u43, u44, u45, u46, u47, rfl, HS, hI⟩ J17 hJ18
      have hkl := hI
      refine wp_seq_k (fun K20 hK21 => ?_)
      refine c_region (fun ops23 hops22 => ?_)
      clear hops22
      refine p_run (l' := _) _ (x_cmp (k := .i64) (m := (k : Int)) (n := ((toN fs).length : Int)) .lss (decide ((k : Int) < ((toN fs).length : Int))) rfl rfl rfl rfl rfl) rfl ?_
      refine wpList_nil ?_
      refine fr_at (l' := [.pointer (some ⟨G, 0, none⟩), .slice A ((toN fs).length) c, undef, undef, u4, u5, u6, .pointer (some ⟨G, 0, none⟩), .int .i64 (fs.length : Int), .slice A ((toN fs).length) c, .int .i64 ((toN fs).length : Int), .bool false, .bool false, .pointer (some ⟨G, 0, none⟩), .slice A ((toN fs).length) c, .int .i64 ((toN fs).length : Int), .int .i64 (-1), .bool false, .bool false, .bool false, .pointer (some ⟨G, 0, none⟩), .slice none 0 0, .int .i64 0, .bool false, .bool false, .slice A ((toN fs).length) c, .int .i64 ((toN fs).length : Int), .int .i64 (k : Int), .bool (decide ((k : Int) < ((toN fs).length : Int))), u29, u30, u31, u32, u33, u34, u35, u36, u37, u38, u39, u40, u41, u42, u43, u44, u45, u46, u47]) rfl ?_
      refine hK21 _ _ ?_
      refine wp_seq_k (fun K24 hK25 => ?_)
      refine c_cond (t := decide ((k : Int) < ((toN fs).length : Int))) rfl (fun hc26 => ?_) (fun hc26 => ?_)
      · have hlt : k < fs.length := by have := of_decide_eq_true hc26; rw [toN_length] at this; omega
        obtain ⟨⟨tt, fv, xs⟩, hf⟩ : ∃ f, fs[k]? = some f := ⟨_, List.getElem?_eq_getElem hlt⟩
        have hx := toN_get hf
        have hxl := hxs _ (List.mem_of_getElem? hf)
        obtain ⟨ad, rfl⟩ := pk_some (HS.get (.tail _ (.tail _ (.tail _ (.head _))))) (rp_get hx)
        refine wp_skip ?_
        refine hK25 _ _ ?_
        refine wp_seq_k (fun K27 hK28 => ?_)
        refine wp_block ?_
        refine wp_seq_k (fun K29 hK30 => ?_)
        refine c_region (fun ops32 hops31 => ?_)
        clear hops31
        refine p_run (l' := _) _ (x_move (.int .i64 (k : Int)) rfl rfl) rfl ?_
        refine p_run (l' := _) _ (x_index (A := ad) (j := k * 2) (sz := 2) rfl rfl rfl Try.underlying52 (by kernel_rfl) (by rw [toN_length]; omega) rfl) rfl ?_
        refine p_run (l' := _) _ (x_loads [.int .i64 tt, .string (strB xs)] 2 rfl rfl (pk_cell (HS.get (.tail _ (.tail _ (.tail _ (.head _))))) (rp_get hx)) (by rfl) (by kernel_rfl) rfl) rfl ?_
        refine St.wAlloc HS (cs := [.int .i64 0, .string ByteArray.empty]) (.agg [.int .i64 0, .string ByteArray.empty].toArray) (by kernel_rfl) rfl ?_
        clear HS
        intro g33 w34 hg35 HS
        refine fr_to (l' := [.pointer (some ⟨G, 0, none⟩), .slice (some ad) ((toN fs).length) c, undef, undef, u4, u5, .pointer (some ⟨g33, 0, none⟩), .pointer (some ⟨G, 0, none⟩), .int .i64 (fs.length : Int), .slice (some ad) ((toN fs).length) c, .int .i64 ((toN fs).length : Int), .bool false, .bool false, .pointer (some ⟨G, 0, none⟩), .slice (some ad) ((toN fs).length) c, .int .i64 ((toN fs).length : Int), .int .i64 (-1), .bool false, .bool false, .bool false, .pointer (some ⟨G, 0, none⟩), .slice none 0 0, .int .i64 0, .bool false, .bool false, .slice (some ad) ((toN fs).length) c, .int .i64 ((toN fs).length : Int), .int .i64 (k : Int), .bool (decide ((k : Int) < ((toN fs).length : Int))), .int .i64 (k : Int), .pointer (some ((ad).add (k * 2))), .agg ([.int .i64 tt, .string (strB xs)] : List Value).toArray, u32, u33, u34, u35, u36, u37, u38, u39, u40, u41, u42, u43, u44, u45, u46, u47]) rfl ?_
        refine p_run (l' := _) _ (x_assign (.int .i64 (k : Int)) rfl rfl) rfl ?_
        refine St.stores (cs' := [.int .i64 tt, .string (strB xs)]) HS [.int .i64 tt, .string (strB xs)] 2 rfl rfl (by rfl) (by kernel_rfl) rfl (by simp) rfl ?_
        clear HS
        intro w36 HS
        refine wpList_nil ?_
        refine fr_at (l' := [.pointer (some ⟨G, 0, none⟩), .slice (some ad) ((toN fs).length) c, undef, undef, u4, .int .i64 (k : Int), .pointer (some ⟨g33, 0, none⟩), .pointer (some ⟨G, 0, none⟩), .int .i64 (fs.length : Int), .slice (some ad) ((toN fs).length) c, .int .i64 ((toN fs).length : Int), .bool false, .bool false, .pointer (some ⟨G, 0, none⟩), .slice (some ad) ((toN fs).length) c, .int .i64 ((toN fs).length : Int), .int .i64 (-1), .bool false, .bool false, .bool false, .pointer (some ⟨G, 0, none⟩), .slice none 0 0, .int .i64 0, .bool false, .bool false, .slice (some ad) ((toN fs).length) c, .int .i64 ((toN fs).length : Int), .int .i64 (k : Int), .bool (decide ((k : Int) < ((toN fs).length : Int))), .int .i64 (k : Int), .pointer (some ((ad).add (k * 2))), .agg ([.int .i64 tt, .string (strB xs)] : List Value).toArray, u32, u33, u34, u35, u36, u37, u38, u39, u40, u41, u42, u43, u44, u45, u46, u47]) rfl ?_
        refine hK30 _ _ ?_
        refine wp_seq_k (fun K37 hK38 => ?_)
        refine free_frame (n := 15) (T := _) [0, 0, 3, 0, 8, 31, 63, 127, 127, 511, 1023, 127, 2175, 8191, 16383] [(0, 32), (1, 33), (2, 34), (3, 35), (4, 36), (5, 37), (6, 38), (7, 39), (8, 40), (9, 41), (10, 42), (11, 43), (12, 44), (13, 45), (14, 46)] (fun bq_ vq_ w_ => qv ((fun i_ => match i_ with | 0 => some (.pointer (some ⟨G, 0, none⟩)) | 1 => some (.int .i64 (k : Int)) | 2 => some (.int .i64 tt) | 3 => some (.pointer (some ⟨g33, 0, none⟩)) | 4 => some (.int .i64 tt) | 5 => some (.bool false) | 6 => some (.bool false) | 7 => some (.pointer (some ⟨G, 0, none⟩)) | 8 => some (.int .i64 (k : Int)) | 10 => some (.string (strB xs)) | 11 => some (.pointer (some ⟨g33, 1, none⟩)) | 12 => some (.string (strB xs)) | 13 => some (.bool false) | 14 => some (.bool false) | _ => none) : Nat → Option Value) bq_ vq_ ∧ cond (bq_ 9) (∃ (oa41 : Option Addr) (nc42 : Nat), vq_ 9 = .slice oa41 xs.length nc42 ∧ St w0 F w_ (row kByte rfl 5 (.slice oa41 xs.length nc42) xs :: blk G [v] 72 :: row kPk rfl 75 v (pk fs) :: allR (frs fs) :: blk g33 [.int .i64 tt, .string (strB xs)] 58 :: row kPk rfl 58 (.slice (some ad) ((toN fs).length) c) (rp (toN fs)) :: L)) ((St w0 F w_ (blk g33 [.int .i64 tt, .string (strB xs)] 58 :: blk G [v] 72 :: row kPk rfl 75 v (pk fs) :: allR (frs fs) :: row kPk rfl 58 (.slice (some ad) ((toN fs).length) c) (rp (toN fs)) :: L)))) (by kernel_rfl) rfl rfl (by kernel_rfl) (by kernel_rfl) rfl (by kernel_rfl) (by kernel_rfl) ⟨qv_none, HS.draw⟩ ?_ ?_
        · clear HS
          intro i_ hi_ bq_ vq_ a_ w_ hG hb_ hon hoff hfr hel hval
          obtain ⟨hV, hE⟩ := hG
          have hi_ := List.mem_range.1 hi_
          obtain ⟨l_, rfl⟩ := hfr
          have hv_ := fun (j t : Nat) (v : Value) (h1 : (j, t) ∈ [(0, 32), (1, 33), (2, 34), (3, 35), (4, 36), (5, 37), (6, 38), (7, 39), (8, 40), (9, 41), (10, 42), (11, 43), (12, 44), (13, 45), (14, 46)]) h2 h3 => (hval (j, t) h1 h3).trans (congrArg some (hV j v h2 h3))
          have hcs : i_ = 0 ∨ i_ = 1 ∨ i_ = 2 ∨ i_ = 3 ∨ i_ = 4 ∨ i_ = 5 ∨ i_ = 6 ∨ i_ = 7 ∨ i_ = 8 ∨ i_ = 9 ∨ i_ = 10 ∨ i_ = 11 ∨ i_ = 12 ∨ i_ = 13 ∨ i_ = 14 := by omega
          rcases hcs with rfl | rfl | rfl | rfl | rfl | rfl | rfl | rfl | rfl | rfl | rfl | rfl | rfl | rfl | rfl
          · have e0 : evl l_ (.tmp 0) = .pointer (some ⟨G, 0, none⟩) := evl_of ((hel 0 (by decide)).trans rfl)
            exact ⟨_, rfl, fun K_ hK_ => q_op _ (x_move (.pointer (some ⟨G, 0, none⟩)) rfl e0) (hK_ _ _ ⟨qv_up hV (fun _ h => Option.some.inj h), hE⟩)⟩
          · have e5 : evl l_ (.tmp 5) = .int .i64 (k : Int) := evl_of ((hel 5 (by decide)).trans rfl)
            exact ⟨_, rfl, fun K_ hK_ => q_op _ (x_move (.int .i64 (k : Int)) rfl e5) (hK_ _ _ ⟨qv_up hV (fun _ h => Option.some.inj h), hE⟩)⟩
          · have hE0 := hE
            rw [show bq_ 9 = false from (hoff 9 (by decide))] at hE0
            simp only [cond_true, cond_false] at hE0
            have HS := hE0
            have e32 : evl l_ (.tmp 32) = .pointer (some ⟨G, 0, none⟩) := evl_of (hv_ 0 32 _ (by decide) rfl (hon 0 (by decide)))
            have e33 : evl l_ (.tmp 33) = .int .i64 (k : Int) := evl_of (hv_ 1 33 _ (by decide) rfl (hon 1 (by decide)))
            refine ⟨_, rfl, fun K_ hK_ => wp_of_list rfl ?_⟩
            intro ops_
            refine w_call [.pointer (some ⟨G, 0, none⟩), .int .i64 (k : Int)] Try.func30 (by kernel_rfl) (by rfl) (by simp only [List.map_cons, List.map_nil, e32, e33] <;> rfl) ?_
            replace HS := (((HS.front 3 rfl).front 3 rfl).front 3 rfl)
            refine (nTo_yes (i := k) HS hf (by omega)).mono ?_
            rintro e w' ⟨rfl, rfl⟩
            refine ⟨_, rfl, ?_⟩
            refine wpList_nil ?_
            exact norm_put (hK_ (.int .i64 tt) _ ⟨qv_up hV (fun _ h => Option.some.inj h), hE⟩)
          · have e6 : evl l_ (.tmp 6) = .pointer (some ⟨g33, 0, none⟩) := evl_of ((hel 6 (by decide)).trans rfl)
            exact ⟨_, rfl, fun K_ hK_ => q_op _ (x_field (j := 0) _ _ rfl e6 Try.underlying58 rfl (by rfl) rfl) (hK_ _ _ ⟨qv_up hV (fun _ h => Option.some.inj h), hE⟩)⟩
          · have hE0 := hE
            rw [show bq_ 9 = false from (hoff 9 (by decide))] at hE0
            simp only [cond_true, cond_false] at hE0
            have HS := hE0
            have e35 : evl l_ (.tmp 35) = .pointer (some ⟨g33, 0, none⟩) := evl_of (hv_ 3 35 _ (by decide) rfl (hon 3 (by decide)))
            exact ⟨_, rfl, fun K_ hK_ => q_op _ (x_load (.int .i64 tt) rfl e35 (bkCell (HS.get (.head _)) 0 _ rfl) (by rfl)) (hK_ _ _ ⟨qv_up hV (fun _ h => Option.some.inj h), hE⟩)⟩
          · have e34 : evl l_ (.tmp 34) = .int .i64 tt := evl_of (hv_ 2 34 _ (by decide) rfl (hon 2 (by decide)))
            have e36 : evl l_ (.tmp 36) = .int .i64 tt := evl_of (hv_ 4 36 _ (by decide) rfl (hon 4 (by decide)))
            exact ⟨_, rfl, fun K_ hK_ => q_op _ (x_cmp (k := .i64) (m := tt) (n := tt) .neq false rfl e34 e36 (by simp [cmpB]) rfl) (hK_ _ _ ⟨qv_up hV (fun _ h => Option.some.inj h), hE⟩)⟩
          · have e37 : evl l_ (.tmp 37) = .bool false := evl_of (hv_ 5 37 _ (by decide) rfl (hon 5 (by decide)))
            exact ⟨_, rfl, fun K_ hK_ => q_op _ (x_move (.bool false) rfl e37) (hK_ _ _ ⟨qv_up hV (fun _ h => Option.some.inj h), hE⟩)⟩
          · have h38 : (fr l_).tmps[38]? = some (.bool false) := hv_ 6 38 _ (by decide) rfl (hon 6 (by decide))
            have e0 : evl l_ (.tmp 0) = .pointer (some ⟨G, 0, none⟩) := evl_of ((hel 0 (by decide)).trans rfl)
            have e38 : evl l_ (.tmp 38) = .bool false := evl_of h38
            exact ⟨_, rfl, fun K_ hK_ => q_opG (wanted_on (t := 38) rfl rfl rfl h38) _ (x_move (.pointer (some ⟨G, 0, none⟩)) rfl e0) (hK_ _ _ ⟨qv_up hV (fun _ h => Option.some.inj h), hE⟩)⟩
          · have h38 : (fr l_).tmps[38]? = some (.bool false) := hv_ 6 38 _ (by decide) rfl (hon 6 (by decide))
            have e5 : evl l_ (.tmp 5) = .int .i64 (k : Int) := evl_of ((hel 5 (by decide)).trans rfl)
            have e38 : evl l_ (.tmp 38) = .bool false := evl_of h38
            exact ⟨_, rfl, fun K_ hK_ => q_opG (wanted_on (t := 38) rfl rfl rfl h38) _ (x_move (.int .i64 (k : Int)) rfl e5) (hK_ _ _ ⟨qv_up hV (fun _ h => Option.some.inj h), hE⟩)⟩
          · have h38 : (fr l_).tmps[38]? = some (.bool false) := hv_ 6 38 _ (by decide) rfl (hon 6 (by decide))
            have h39 : (fr l_).tmps[39]? = some (.pointer (some ⟨G, 0, none⟩)) := hv_ 7 39 _ (by decide) rfl (hon 7 (by decide))
            have h40 : (fr l_).tmps[40]? = some (.int .i64 (k : Int)) := hv_ 8 40 _ (by decide) rfl (hon 8 (by decide))
            have hE0 := hE
            rw [show bq_ 9 = false from hb_] at hE0
            simp only [cond_true, cond_false] at hE0
            have HS := hE0
            have e38 : evl l_ (.tmp 38) = .bool false := evl_of h38
            have e39 : evl l_ (.tmp 39) = .pointer (some ⟨G, 0, none⟩) := evl_of h39
            have e40 : evl l_ (.tmp 40) = .int .i64 (k : Int) := evl_of h40
            refine ⟨_, rfl, fun K_ hK_ => wp_of_listG rfl (wanted_on (t := 38) rfl rfl rfl h38) ?_⟩
            intro ops_
            refine w_call [.pointer (some ⟨G, 0, none⟩), .int .i64 (k : Int)] Try.func28 (by kernel_rfl) (by rfl) (by simp only [List.map_cons, List.map_nil, e39, e40] <;> rfl) ?_
            replace HS := (((HS.front 3 rfl).front 3 rfl).front 3 rfl)
            refine (nPeek_yes (i := k) HS hf (by omega) hxl).mono ?_
            clear HS
            rintro e w900903 ⟨oa900901, nc900902, rfl, HS⟩
            refine ⟨_, rfl, ?_⟩
            refine wpList_nil ?_
            refine norm_put (hK_ (.slice oa900901 xs.length nc900902) _ ⟨qv_up hV (by intro _ h; cases h), ?_⟩)
            show cond true _ _
            rw [cond_true]
            exact ⟨oa900901, nc900902, rfl, ((((((HS.front 5 rfl).front 5 rfl).front 5 rfl).front 5 rfl).front 5 rfl).front 5 rfl)⟩
          · have h38 : (fr l_).tmps[38]? = some (.bool false) := hv_ 6 38 _ (by decide) rfl (hon 6 (by decide))
            have h41 := hval (9, 41) (by decide) (hon 9 (by decide))
            have hE0 := hE
            rw [show bq_ 9 = true from (hon 9 (by decide))] at hE0
            simp only [cond_true, cond_false] at hE0
            obtain ⟨oa41, nc42, hv9, HS⟩ := hE0
            rw [hv9] at h41
            have e38 : evl l_ (.tmp 38) = .bool false := evl_of h38
            have e41 : evl l_ (.tmp 41) = .slice oa41 xs.length nc42 := evl_of h41
            exact ⟨_, rfl, fun K_ hK_ => q_opG (wanted_on (t := 38) rfl rfl rfl h38) _ (x_str (xs := xs) (row_rd (HS.get (.head _))).2.2 (by first | rfl | simp) rfl e41) (hK_ _ _ ⟨qv_up hV (fun _ h => Option.some.inj h), hE⟩)⟩
          · have h38 : (fr l_).tmps[38]? = some (.bool false) := hv_ 6 38 _ (by decide) rfl (hon 6 (by decide))
            have e6 : evl l_ (.tmp 6) = .pointer (some ⟨g33, 0, none⟩) := evl_of ((hel 6 (by decide)).trans rfl)
            have e38 : evl l_ (.tmp 38) = .bool false := evl_of h38
            exact ⟨_, rfl, fun K_ hK_ => q_opG (wanted_on (t := 38) rfl rfl rfl h38) _ (x_field (j := 1) _ _ rfl e6 Try.underlying58 rfl (by rfl) rfl) (hK_ _ _ ⟨qv_up hV (fun _ h => Option.some.inj h), hE⟩)⟩
          · have h38 : (fr l_).tmps[38]? = some (.bool false) := hv_ 6 38 _ (by decide) rfl (hon 6 (by decide))
            rcases hq9 : bq_ 9 with _ | _
            · skip
              have hE0 := hE
              rw [show bq_ 9 = false from hq9] at hE0
              simp only [cond_true, cond_false] at hE0
              have HS := hE0
              have e38 : evl l_ (.tmp 38) = .bool false := evl_of h38
              have e43 : evl l_ (.tmp 43) = .pointer (some ⟨g33, 1, none⟩) := evl_of (hv_ 11 43 _ (by decide) rfl (hon 11 (by decide)))
              exact ⟨_, rfl, fun K_ hK_ => q_opG (wanted_on (t := 38) rfl rfl rfl h38) _ (x_load (.string (strB xs)) rfl e43 (bkCell (HS.get (.head _)) 1 _ rfl) (by rfl)) (hK_ _ _ ⟨qv_up hV (fun _ h => Option.some.inj h), hE⟩)⟩
            · have hE0 := hE
              rw [show bq_ 9 = true from hq9] at hE0
              simp only [cond_true, cond_false] at hE0
              obtain ⟨oa41, nc42, hv9, HS⟩ := hE0
              have e38 : evl l_ (.tmp 38) = .bool false := evl_of h38
              have e43 : evl l_ (.tmp 43) = .pointer (some ⟨g33, 1, none⟩) := evl_of (hv_ 11 43 _ (by decide) rfl (hon 11 (by decide)))
              exact ⟨_, rfl, fun K_ hK_ => q_opG (wanted_on (t := 38) rfl rfl rfl h38) _ (x_load (.string (strB xs)) rfl e43 (bkCell (HS.get (.tail _ (.tail _ (.tail _ (.tail _ (.head _)))))) 1 _ rfl) (by rfl)) (hK_ _ _ ⟨qv_up hV (fun _ h => Option.some.inj h), hE⟩)⟩
          · have h38 : (fr l_).tmps[38]? = some (.bool false) := hv_ 6 38 _ (by decide) rfl (hon 6 (by decide))
            have e38 : evl l_ (.tmp 38) = .bool false := evl_of h38
            have e42 : evl l_ (.tmp 42) = .string (strB xs) := evl_of (hv_ 10 42 _ (by decide) rfl (hon 10 (by decide)))
            have e44 : evl l_ (.tmp 44) = .string (strB xs) := evl_of (hv_ 12 44 _ (by decide) rfl (hon 12 (by decide)))
            exact ⟨_, rfl, fun K_ hK_ => q_opG (wanted_on (t := 38) rfl rfl rfl h38) _ (x_streq .neq (strB xs) (strB xs) false rfl e42 e44 (str_no rfl) rfl) (hK_ _ _ ⟨qv_up hV (fun _ h => Option.some.inj h), hE⟩)⟩
          · have e38 : evl l_ (.tmp 38) = .bool false := evl_of (hv_ 6 38 _ (by decide) rfl (hon 6 (by decide)))
            have e45 : evl l_ (.tmp 45) = .bool false := evl_of (hv_ 13 45 _ (by decide) rfl (hon 13 (by decide)))
            exact ⟨_, rfl, fun K_ hK_ => q_op _ (x_pick false (.bool true) (.bool false) (.bool false) rfl e38 rfl e45 rfl) (hK_ _ _ ⟨qv_up hV (fun _ h => Option.some.inj h), hE⟩)⟩
        intro bq_ vq_ w_ hall hG
        obtain ⟨hV, hE⟩ := hG
        clear HS
        rw [show bq_ 9 = true from hall 9 (by decide)] at hE
        simp only [cond_true] at hE
        obtain ⟨oa41, nc42, hv9, HS⟩ := hE
        have hv0 := hV 0 _ rfl (hall 0 (by decide))
        have hv1 := hV 1 _ rfl (hall 1 (by decide))
        have hv2 := hV 2 _ rfl (hall 2 (by decide))
        have hv3 := hV 3 _ rfl (hall 3 (by decide))
        have hv4 := hV 4 _ rfl (hall 4 (by decide))
        have hv5 := hV 5 _ rfl (hall 5 (by decide))
        have hv6 := hV 6 _ rfl (hall 6 (by decide))
        have hv7 := hV 7 _ rfl (hall 7 (by decide))
        have hv8 := hV 8 _ rfl (hall 8 (by decide))
        have hv10 := hV 10 _ rfl (hall 10 (by decide))
        have hv11 := hV 11 _ rfl (hall 11 (by decide))
        have hv12 := hV 12 _ rfl (hall 12 (by decide))
        have hv13 := hV 13 _ rfl (hall 13 (by decide))
        have hv14 := hV 14 _ rfl (hall 14 (by decide))
        clear hV hall
        rw [putSel_fr]
        simp only [tells, List.map_cons, List.map_nil, setAll, List.set_cons_succ, List.set_cons_zero, hv0, hv1, hv2, hv3, hv4, hv5, hv6, hv7, hv8, hv9, hv10, hv11, hv12, hv13, hv14]
        clear hv0 hv1 hv2 hv3 hv4 hv5 hv6 hv7 hv8 hv9 hv10 hv11 hv12 hv13 hv14
        generalize w_ = w901201 at HS ⊢
        refine fr_at (l' := [.pointer (some ⟨G, 0, none⟩), .slice (some ad) ((toN fs).length) c, undef, undef, u4, .int .i64 (k : Int), .pointer (some ⟨g33, 0, none⟩), .pointer (some ⟨G, 0, none⟩), .int .i64 (fs.length : Int), .slice (some ad) ((toN fs).length) c, .int .i64 ((toN fs).length : Int), .bool false, .bool false, .pointer (some ⟨G, 0, none⟩), .slice (some ad) ((toN fs).length) c, .int .i64 ((toN fs).length : Int), .int .i64 (-1), .bool false, .bool false, .bool false, .pointer (some ⟨G, 0, none⟩), .slice none 0 0, .int .i64 0, .bool false, .bool false, .slice (some ad) ((toN fs).length) c, .int .i64 ((toN fs).length : Int), .int .i64 (k : Int), .bool (decide ((k : Int) < ((toN fs).length : Int))), .int .i64 (k : Int), .pointer (some ((ad).add (k * 2))), .agg ([.int .i64 tt, .string (strB xs)] : List Value).toArray, .pointer (some ⟨G, 0, none⟩), .int .i64 (k : Int), .int .i64 tt, .pointer (some ⟨g33, 0, none⟩), .int .i64 tt, .bool false, .bool false, .pointer (some ⟨G, 0, none⟩), .int .i64 (k : Int), .slice oa41 xs.length nc42, .string (strB xs), .pointer (some ⟨g33, 1, none⟩), .string (strB xs), .bool false, .bool false, u47]) rfl ?_
        refine hK38 _ _ ?_
        refine c_false rfl ?_
        refine wp_skip ?_
        refine hK28 _ _ ?_
        refine c_region (fun ops901203 hops901202 => ?_)
        clear hops901202
        refine p_run (l' := _) _ (x_arith (k := .i64) (m := (k : Int)) (n := 1) .add (((k + 1 : Nat) : Int)) rfl rfl rfl (show IntKind.i64.wrap ((k : Int) + 1) = ((k + 1 : Nat) : Int) from ((wr64 (by omega)).trans (by omega))) rfl) rfl ?_
        refine p_run (l' := _) _ (x_move (.int .i64 ((k + 1 : Nat) : Int)) rfl rfl) rfl ?_
        refine wpList_nil ?_
        refine fr_at (l' := [.pointer (some ⟨G, 0, none⟩), .slice (some ad) ((toN fs).length) c, undef, undef, u4, .int .i64 (k : Int), .pointer (some ⟨g33, 0, none⟩), .pointer (some ⟨G, 0, none⟩), .int .i64 (fs.length : Int), .slice (some ad) ((toN fs).length) c, .int .i64 ((toN fs).length : Int), .bool false, .bool false, .pointer (some ⟨G, 0, none⟩), .slice (some ad) ((toN fs).length) c, .int .i64 ((toN fs).length : Int), .int .i64 (-1), .bool false, .bool false, .bool false, .pointer (some ⟨G, 0, none⟩), .slice none 0 0, .int .i64 0, .bool false, .bool false, .slice (some ad) ((toN fs).length) c, .int .i64 ((toN fs).length : Int), .int .i64 ((k + 1 : Nat) : Int), .bool (decide ((k : Int) < ((toN fs).length : Int))), .int .i64 (k : Int), .pointer (some ((ad).add (k * 2))), .agg ([.int .i64 tt, .string (strB xs)] : List Value).toArray, .pointer (some ⟨G, 0, none⟩), .int .i64 (k : Int), .int .i64 tt, .pointer (some ⟨g33, 0, none⟩), .int .i64 tt, .bool false, .bool false, .pointer (some ⟨G, 0, none⟩), .int .i64 (k : Int), .slice oa41 xs.length nc42, .string (strB xs), .pointer (some ⟨g33, 1, none⟩), .string (strB xs), .bool false, .bool false, .int .i64 ((k + 1 : Nat) : Int)]) rfl ?_
        refine hJ18 (k + 1) _ _ ?_ ?_
        · show fs.length - (k + 1) < fs.length - k; omega
        · exact ⟨_, _, _, _, _, _, _, _, _, _, _, _, _, _, _, _, _, _, _, _, _, _, _, rfl, (((((HS.drop.front 3 rfl).drop.front 3 rfl).front 3 rfl).front 3 rfl).front 3 rfl), (by omega)⟩
      · refine wp_exit ?_
        refine hK12 _ _ ?_
        refine wp_seq_k (fun K901204 hK901205 => ?_)
        refine c_region (fun ops901207 hops901206 => ?_)
        clear hops901206
        refine p_run (l' := _) _ (x_assign (.bool true) rfl rfl) rfl ?_
        refine wpList_nil ?_
        refine fr_at (l' := [.pointer (some ⟨G, 0, none⟩), .slice A ((toN fs).length) c, undef, undef, .bool true, u5, u6, .pointer (some ⟨G, 0, none⟩), .int .i64 (fs.length : Int), .slice A ((toN fs).length) c, .int .i64 ((toN fs).length : Int), .bool false, .bool false, .pointer (some ⟨G, 0, none⟩), .slice A ((toN fs).length) c, .int .i64 ((toN fs).length : Int), .int .i64 (-1), .bool false, .bool false, .bool false, .pointer (some ⟨G, 0, none⟩), .slice none 0 0, .int .i64 0, .bool false, .bool false, .slice A ((toN fs).length) c, .int .i64 ((toN fs).length : Int), .int .i64 (k : Int), .bool (decide ((k : Int) < ((toN fs).length : Int))), u29, u30, u31, u32, u33, u34, u35, u36, u37, u38, u39, u40, u41, u42, u43, u44, u45, u46, u47]) rfl ?_
        refine hK901205 _ _ ?_
        refine wp_ret ?_
        try simp only [Exit.inBlock, Exit.then]
        refine c_ret (.bool true) (r_tmp rfl rfl) ?_
        exact ⟨rfl, ((((HS.front 3 rfl).front 3 rfl).front 3 rfl).front 3 rfl)⟩
end
end Go.Proofs.Ytckfcnclekjjdaa
