/- The document's root: Page, number, open. -/
import Derived.Test.YtenlkobjldhfgaaZRootRunsRby
import Derived.Test.YtenlkobjldhfgaaZRootRunsRfP
import Derived.Test.YtenlkobjldhfgaaZRootRunsRt2
import Derived.Test.YtenlkobjldhfgaaZRootRunsV8
set_option linter.unusedVariables false
set_option linter.unusedSimpArgs false
namespace Go.Proofs.Ytenlkobjldhfgaa
open Go.RowKit Go.Proofs.YtenlkobjldhfgaaW.PrintWords Go.Proofs.YtenlkobjldhfgaaW.PrintLast Crc
abbrev U4vrf1 (l : List Value) : List Value := undef :: undef :: undef :: undef :: l
abbrev U8vrf1 (l : List Value) : List Value := U4vrf1 (U4vrf1 l)
abbrev U16vrf1 (l : List Value) : List Value := U8vrf1 (U8vrf1 l)
abbrev U32vrf1 (l : List Value) : List Value := U16vrf1 (U16vrf1 l)
section
variable {w0 W : World} {F : Nat → Prop} {L : List Res}
theorem fs_gn (g : UInt64) : fsB [(8, g)] = gnB g := by simp [fsB, gnB]
theorem fs_two {n : Nat} (h : n ≤ 186) : fsB [(2, UInt64.ofNat n)] = leB 2 n := by
 have e : (UInt64.ofNat n).toNat = n := ofN_lt (m := 18446744073709551616) (by omega) (Nat.le_refl _)
 simp only [fsB, List.flatMap_cons, List.flatMap_nil, List.append_nil, e]
theorem rd_cellD {w : World} {ad : Addr} {xs : List UInt8} (h : Rd w (some ad) xs) {j : Nat} (hj : j < xs.length) : w.cell? (ad.add (j * 1)) = some (.int .u8 (bv (xs.getD j 0))) := by
 rw [List.getD_eq_getElem?_getD, List.getElem?_eq_getElem hj]
 exact rd_cell h j hj
theorem nb_at {q : List UInt8} {k : Nat} (h : k < q.length) : (nums .u8 (q.map bv))[k]? = some (.int .u8 (bv (q.getD k 0))) := by
 unfold nums
 rw [List.getElem?_map, List.getElem?_map, List.getElem?_eq_getElem h, List.getD_eq_getElem?_getD, List.getElem?_eq_getElem h]
 rfl
theorem cb64 (x : UInt8) : IntKind.u64.wrap (bv x) = bv x := by have := x.toNat_lt; unfold bv; rw [IntKind.wrap_u64]; omega
theorem ci64 (x : UInt8) : IntKind.i64.wrap (bv x) = bv x := by have := x.toNat_lt; unfold bv; rw [IntKind.wrap_i64]; omega
theorem ci256 (x : UInt8) : IntKind.i64.wrap (256 * bv x) = 256 * bv x := by have := x.toNat_lt; unfold bv; rw [IntKind.wrap_i64]; omega
theorem sz_i64 {q : List UInt8} (hq : q.length = 256) : IntKind.i64.wrap (bv (q.getD 8 0) + 256 * bv (q.getD 9 0)) = (szR q : Int) := by
 have h1 := (q.getD 8 0).toNat_lt
 have h2 := (q.getD 9 0).toNat_lt
 rw [sz_two hq]
 unfold bv
 rw [IntKind.wrap_i64]
 omega
theorem tm32 (j : Nat) : (j : Int).tmod 32 = ((j % 32 : Nat) : Int) := (Int.tmod_eq_emod_of_nonneg (by omega)).trans (by omega)
theorem pg_hD {g : UInt64} {st : List UInt8} {i : Nat} (hi : i < 256) (h : i % 32 < 8) : (pgB g st)[i]? = some ((gnB g).getD (i % 32) 0) := by
 rw [pg_head hi h, List.getD_eq_getElem?_getD, List.getElem?_eq_getElem (by rw [gnB_length]; exact h)]
 rfl
theorem pg_bD {g : UInt64} {st : List UInt8} {i k : Nat} (hi : i < 256) (h : ¬ i % 32 < 8) (hk : k = kS i) (hl : k < st.length) : (pgB g st)[i]? = some (st.getD k 0) := by
 subst hk
 rw [pg_body hi h hl, List.getD_eq_getElem?_getD, List.getElem?_eq_getElem hl]
 rfl
set_option maxRecDepth 10000 in
set_option maxHeartbeats 2000000 in
theorem rtpage_any (HS : St w0 F W L) (g : UInt64) {A : Option Addr} {c : Nat} (xs : List UInt8) (hc : ∀ w X, St w0 F w (X ++ L) → Rd w A xs ∧ xs.length ≤ c) (hl : xs.length ≤ 186) : Calls Try.prog 20 #[.int .u64 (uv g), .slice A xs.length c] W fun e w' => e = .returned (.agg (nums .u8 ((pgB g (rtS xs)).map bv)).toArray) ∧ St w0 F w' L := by
 have hrl := rtS_len xs
 ·refine c_enter Try.func20 rfl 51 rfl (.int .u64 (uv g) :: .slice A xs.length c :: U32vrf1 (U16vrf1 (undef :: []))) rfl ?_
  refine wp_seq_k (fun K1 hK2 => ?_)
  refine c_region (fun ops4 hops3 => ?_)
  clear hops3
  refine St.wAlloc HS (cs := ((nums .u8 zpg))) (.agg ((nums .u8 zpg)).toArray) (by kernel_rfl) rfl ?_
  clear HS
  intro g5 w6 hg7 HS
  refine wpList_nil ?_
  refine hK2 _ _ ?_
  refine wp_seq_k (fun K8 hK9 => ?_)
  refine c_region (fun ops11 hops10 => ?_)
  clear hops10
  refine p_run _ (x_move (.slice A xs.length c) rfl rfl) rfl ?_
  refine p_run _ (x_len rfl rfl Try.underlying24) rfl ?_
  refine p_run _ (x_conv (k := .i64) (m := (xs.length : Int)) .u64 ((uv (UInt64.ofNat xs.length))) rfl (by rw [Try.underlying3]; rfl) Try.underlying25 rfl (uv_len (by omega))) rfl ?_
  refine p_run _ (x_build [.int .u64 2, .int .u64 (uv (UInt64.ofNat xs.length))] rfl (by kernel_rfl)) rfl ?_
  refine St.wLit1 HS [.int .u64 2, .int .u64 (uv (UInt64.ofNat xs.length))] 2 (.agg [.int .u64 0, .int .u64 0].toArray) (.agg ([.int .u64 2, .int .u64 (uv (UInt64.ofNat xs.length))] : List Value).toArray) Try.underlying102 (by kernel_rfl) (by decide) rfl rfl rfl ?_
  clear HS
  intro g12 w13 hg14 HS
  refine w_call [.slice (some ⟨g12, 0, none⟩) 1 1] Try.func39 (by kernel_rfl) (by rfl) rfl ?_
  refine (fields_any (q := g12) (t := 84) (fs := [(2, UInt64.ofNat xs.length)]) HS (by intro f hf; rcases List.mem_singleton.1 hf with rfl; exact (by decide : 2 ≤ 8)) (by simp)).mono ?_
  clear HS
  rintro e w16 ⟨v15, rfl, HS⟩
  rw [fs_two hl] at HS
  refine ⟨_, rfl, ?_⟩
  refine p_run (l' := (.int .u64 (uv g) :: .slice A xs.length c :: undef :: undef :: .pointer (some ⟨g5, 0, none⟩) :: U4vrf1 (undef :: .slice A xs.length c :: .int .i64 (xs.length : Int) :: .int .u64 (uv (UInt64.ofNat xs.length)) :: .agg ([.int .u64 2, .int .u64 (uv (UInt64.ofNat xs.length))] : List Value).toArray :: .slice (some ⟨g12, 0, none⟩) 1 1 :: v15 :: .slice A xs.length c :: U32vrf1 (undef :: undef :: [])))) _ (x_move (.slice A xs.length c) rfl rfl) rfl ?_
  refine St.wAppend HS (.int .u8 0) 1 Try.underlying24 (by kernel_rfl) rfl (by decide) (by decide) xs _ _ _ rfl rfl (hc _ [row kByte rfl 5 v15 (leB 2 xs.length), blk g12 [.int .u64 2, .int .u64 (uv (UInt64.ofNat xs.length))] 84, blk g5 ((nums .u8 zpg)) 38] HS).1 (fun _ _ h => h) (by rw [leB_length]; omega) ?_
  clear HS
  intro v17 w18 HS
  refine w_call [v17] Try.func38 (by kernel_rfl) (by rfl) rfl ?_
  refine (rsealR_any HS (rtS xs).length rfl (by omega)).mono ?_
  clear HS
  rintro e w21 ⟨oa19, nc20, rfl, HS⟩
  rw [show sealB (leB 2 xs.length ++ xs) = rtS xs from rfl] at HS
  refine ⟨_, rfl, ?_⟩
  refine p_run _ (x_assign (.slice oa19 ((rtS xs).length) nc20) rfl rfl) rfl ?_
  refine wpList_nil ?_
  refine hK9 _ _ ?_
  refine wp_seq_k (fun K22 hK23 => ?_)
  refine c_region (fun ops25 hops24 => ?_)
  clear hops24
  refine p_run _ (x_move (.int .u64 (uv g)) rfl rfl) rfl ?_
  refine p_run _ (x_build [.int .u64 8, .int .u64 (uv g)] rfl (by kernel_rfl)) rfl ?_
  refine St.wLit1 HS [.int .u64 8, .int .u64 (uv g)] 2 (.agg [.int .u64 0, .int .u64 0].toArray) (.agg ([.int .u64 8, .int .u64 (uv g)] : List Value).toArray) Try.underlying102 (by kernel_rfl) (by decide) rfl rfl rfl ?_
  clear HS
  intro g26 w27 hg28 HS
  refine w_call [.slice (some ⟨g26, 0, none⟩) 1 1] Try.func39 (by kernel_rfl) (by rfl) rfl ?_
  refine (fields_any (q := g26) (t := 84) (fs := [(8, g)]) HS (by intro f hf; rcases List.mem_singleton.1 hf with rfl; exact (by decide : 8 ≤ 8)) (by simp)).mono ?_
  clear HS
  rintro e w30 ⟨v29, rfl, HS⟩
  rw [fs_gn g] at HS
  refine ⟨_, rfl, ?_⟩
  refine p_run (l' := (.int .u64 (uv g) :: .slice A xs.length c :: undef :: undef :: .pointer (some ⟨g5, 0, none⟩) :: .slice oa19 ((rtS xs).length) nc20 :: v29 :: undef :: undef :: undef :: .slice A xs.length c :: .int .i64 (xs.length : Int) :: .int .u64 (uv (UInt64.ofNat xs.length)) :: .agg ([.int .u64 2, .int .u64 (uv (UInt64.ofNat xs.length))] : List Value).toArray :: .slice (some ⟨g12, 0, none⟩) 1 1 :: v15 :: .slice A xs.length c :: v17 :: .slice oa19 ((rtS xs).length) nc20 :: .int .u64 (uv g) :: .agg ([.int .u64 8, .int .u64 (uv g)] : List Value).toArray :: .slice (some ⟨g26, 0, none⟩) 1 1 :: v29 :: U16vrf1 (U8vrf1 (U4vrf1 ([]))))) _ (x_assign (v29) rfl rfl) rfl ?_
  refine wpList_nil ?_
  refine hK23 _ _ ?_
  refine wp_seq_k (fun K31 hK32 => ?_)
  refine c_region (fun ops34 hops33 => ?_)
  clear hops33
  refine p_run _ (x_build ((nums .u8 zpg)) rfl (by kernel_rfl)) rfl ?_
  refine St.wAlloc HS (cs := ((nums .u8 zpg))) (.agg ((nums .u8 zpg)).toArray) (by kernel_rfl) rfl ?_
  clear HS
  intro g35 w36 hg37 HS
  refine St.stores (cs' := ((nums .u8 zpg))) HS ((nums .u8 zpg)) 256 rfl rfl (nums_one _ _) (by kernel_rfl) (by simp [nums_length, zlen]) (by simp [nums_length, zlen]) (lay_all _ _ (by simp [nums_length, zlen])) ?_
  clear HS
  intro w38 HS
  refine wpList_nil ?_
  refine hK32 _ _ ?_
  refine wp_seq_k (fun K39 hK40 => ?_)
  refine c_region (fun ops42 hops41 => ?_)
  clear hops41
  refine p_run _ (x_assign (.int .i64 0) rfl rfl) rfl ?_
  refine wpList_nil ?_
  refine hK40 _ _ ?_
  refine wp_seq_k (fun K43 hK44 => ?_)
  refine wp_seq_k (fun K45 hK46 => ?_)
  refine c_region (fun ops48 hops47 => ?_)
  clear hops47
  refine p_run _ (x_move (.int .i64 0) rfl rfl) rfl ?_
  refine wpList_nil ?_
  obtain ⟨qz49, hqz49⟩ : ∃ q_ : V8, q_ = ⟨.slice A xs.length c, v17, .slice oa19 ((rtS xs).length) nc20, .int .u64 (uv g), .agg ([.int .u64 8, .int .u64 (uv g)] : List Value).toArray, .slice (some ⟨g26, 0, none⟩) 1 1, v29, .agg ((nums .u8 zpg)).toArray⟩ := ⟨_, rfl⟩
  refine fr_at (l' := (.int .u64 (uv g) :: .slice A xs.length c :: undef :: undef :: .pointer (some ⟨g5, 0, none⟩) :: .slice oa19 ((rtS xs).length) nc20 :: v29 :: .pointer (some ⟨g35, 0, none⟩) :: .int .i64 0 :: undef :: .slice A xs.length c :: .int .i64 (xs.length : Int) :: .int .u64 (uv (UInt64.ofNat xs.length)) :: .agg ([.int .u64 2, .int .u64 (uv (UInt64.ofNat xs.length))] : List Value).toArray :: .slice (some ⟨g12, 0, none⟩) 1 1 :: v15 :: V8.l qz49 (.int .i64 0 :: U16vrf1 (U8vrf1 (undef :: undef :: []))))) (by subst hqz49; rfl) ?_
  refine hK46 _ _ ?_
  refine wp_block ?_
  obtain ⟨ad, hA⟩ := rd_some (row_rd (HS.get (.tail _ (.tail _ (.tail _ (.head _)))))).2.2 (by rw [hrl]; omega)
  subst hA
  obtain ⟨A50, c51, hv52, hcp53, -⟩ := row_reads (HS.get (.tail _ (.head _)))
  rw [gnB_length g] at hv52 hcp53
  subst hv52
  obtain ⟨ah, hA⟩ := rd_some (row_rd (HS.get (.tail _ (.head _)))).2.2 (by rw [gnB_length]; omega)
  subst hA
  refine c_loop (ι := Nat × Nat) (fun i_ a_ w_ => match i_ with | (j, k) => ∃ (q54 : V8) (q55 : V8) (q56 : V8) (q57 : V8), a_ = fr (.int .u64 (uv g) :: .slice A xs.length c :: undef :: undef :: .pointer (some ⟨g5, 0, none⟩) :: .slice (some ad) ((rtS xs).length) nc20 :: .slice (some ah) 8 c51 :: .pointer (some ⟨g35, 0, none⟩) :: .int .i64 (k : Int) :: q54.a :: .slice A xs.length c :: .int .i64 (xs.length : Int) :: .int .u64 (uv (UInt64.ofNat xs.length)) :: .agg ([.int .u64 2, .int .u64 (uv (UInt64.ofNat xs.length))] : List Value).toArray :: .slice (some ⟨g12, 0, none⟩) 1 1 :: v15 :: V8.l qz49 (.int .i64 (j : Int) :: q54.b :: q54.c :: q54.d :: q54.e :: q54.f :: q54.g :: q54.h :: V8.l q55 (V8.l q56 (q57.a :: q57.b :: undef :: [])))) ∧ St w0 F w_ (blk g35 ((nums .u8 (padN 256 (pgB g (rtS xs)) j))) 38 :: row kByte rfl 5 (.slice (some ah) 8 c51) (gnB g) :: blk g26 [.int .u64 8, .int .u64 (uv g)] 84 :: row kByte rfl 5 (.slice (some ad) ((rtS xs).length) nc20) (rtS xs) :: row kByte rfl 5 v17 ((leB 2 xs.length) ++ xs) :: blk g12 [.int .u64 2, .int .u64 (uv (UInt64.ofNat xs.length))] 84 :: blk g5 ((nums .u8 zpg)) 38 :: L) ∧ (j ≤ 256 ∧ k = kS j)) (fun i_ => match i_ with | (j, k) => 256 - j) (0, 0) ?_ ?_
  ·exact ⟨⟨undef, undef, undef, undef, undef, undef, undef, undef⟩, ⟨undef, undef, undef, undef, undef, undef, undef, undef⟩, ⟨undef, undef, undef, undef, undef, undef, undef, undef⟩, ⟨undef, undef, undef, undef, undef, undef, undef, undef⟩, rfl, (by rw [pp_zero]; exact (((((((HS.front 6 rfl).front 6 rfl).front 6 rfl).front 6 rfl).front 6 rfl).front 6 rfl).front 6 rfl)), ⟨by omega, rfl⟩⟩
  ·clear HS
   rintro ⟨j, k⟩ a_ w60 ⟨q54, q55, q56, q57, rfl, HS, hI⟩ J58 hJ59
   obtain ⟨hj, hk⟩ := hI
   have hk192 := kS_le hj
   refine wp_seq_k (fun K61 hK62 => ?_)
   refine c_region (fun ops64 hops63 => ?_)
   clear hops63
   refine p_run _ (x_cmp (k := .i64) (m := (j : Int)) (n := 256) .lss (decide ((j : Int) < 256)) rfl rfl rfl rfl rfl) rfl ?_
   refine wpList_nil ?_
   refine hK62 _ _ ?_
   refine wp_seq_k (fun K65 hK66 => ?_)
   refine c_cond (t := decide ((j : Int) < 256)) rfl (fun hc67 => ?_) (fun hc67 => ?_)
   ·have hlt : j < 256 := by have := of_decide_eq_true hc67; omega
    refine wp_skip ?_
    refine hK66 _ _ ?_
    refine wp_seq_k (fun K68 hK69 => ?_)
    refine wp_block ?_
    refine wp_seq_k (fun K70 hK71 => ?_)
    refine c_region (fun ops73 hops72 => ?_)
    clear hops72
    refine p_run _ (x_move (.int .i64 (j : Int)) rfl rfl) rfl ?_
    refine p_run _ (x_assign (.int .i64 (j : Int)) rfl rfl) rfl ?_
    refine wpList_nil ?_
    refine hK71 _ _ ?_
    refine wp_seq_k (fun K74 hK75 => ?_)
    refine wp_seq_k (fun K76 hK77 => ?_)
    refine c_region (fun ops79 hops78 => ?_)
    clear hops78
    refine p_run _ (x_move (.int .i64 (j : Int)) rfl rfl) rfl ?_
    refine p_run _ (x_rem (k := .i64) (m := (j : Int)) (n := 32) (((j % 32 : Nat) : Int)) rfl rfl rfl (by decide) (tm32 j)) rfl ?_
    refine p_run _ (x_cmp (k := .i64) (m := ((j % 32 : Nat) : Int)) (n := 8) .lss (decide (((j % 32 : Nat) : Int) < 8)) rfl rfl rfl rfl rfl) rfl ?_
    refine wpList_nil ?_
    refine fr_at (l' := (.int .u64 (uv g) :: .slice A xs.length c :: undef :: undef :: .pointer (some ⟨g5, 0, none⟩) :: .slice (some ad) ((rtS xs).length) nc20 :: .slice (some ah) 8 c51 :: .pointer (some ⟨g35, 0, none⟩) :: .int .i64 (k : Int) :: .int .i64 (j : Int) :: .slice A xs.length c :: .int .i64 (xs.length : Int) :: .int .u64 (uv (UInt64.ofNat xs.length)) :: .agg ([.int .u64 2, .int .u64 (uv (UInt64.ofNat xs.length))] : List Value).toArray :: .slice (some ⟨g12, 0, none⟩) 1 1 :: v15 :: V8.l qz49 (.int .i64 (j : Int) :: .bool (decide ((j : Int) < 256)) :: .int .i64 (j : Int) :: .int .i64 (j : Int) :: .int .i64 ((j % 32 : Nat) : Int) :: .bool (decide (((j % 32 : Nat) : Int) < 8)) :: q54.g :: q54.h :: V8.l q55 (V8.l q56 (q57.a :: q57.b :: undef :: []))))) rfl ?_
    refine hK77 _ _ ?_
    refine c_cond (t := decide (((j % 32 : Nat) : Int) < 8)) rfl (fun hc80 => ?_) (fun hc80 => ?_)
    ·have h8 : j % 32 < 8 := by have := of_decide_eq_true hc80; omega
     refine wp_seq_k (fun K81 hK82 => ?_)
     refine c_region (fun ops84 hops83 => ?_)
     clear hops83
     refine p_run _ (x_move (.int .i64 (j : Int)) rfl rfl) rfl ?_
     refine p_run _ (x_move (.slice (some ah) 8 c51) rfl rfl) rfl ?_
     refine p_run _ (x_move (.int .i64 (j : Int)) rfl rfl) rfl ?_
     refine p_run _ (x_rem (k := .i64) (m := (j : Int)) (n := 32) (((j % 32 : Nat) : Int)) rfl rfl rfl (by decide) (tm32 j)) rfl ?_
     refine p_run _ (x_index (A := ah) (j := (j % 32 : Nat) * 1) (sz := 1) rfl rfl rfl Try.underlying24 (by kernel_rfl) (by omega) rfl) rfl ?_
     refine p_run _ (x_load (.int .u8 (bv ((gnB g).getD (j % 32) 0))) rfl rfl (rd_cellD (row_rd (HS.get (.tail _ (.head _)))).2.2 (by rw [gnB_length]; exact h8)) (by rfl)) rfl ?_
     refine p_run _ (x_indexArr (sz := 1) (j := j) rfl rfl rfl Try.underlying38 (by kernel_rfl) (by omega) (by first | rfl | (simp; done) | (simp <;> omega) | omega)) rfl ?_
     refine St.store (cs' := (nums .u8 ((padN 256 (pgB g (rtS xs)) j).set j (bv ((gnB g).getD (j % 32) 0))))) HS (.int .u8 (bv ((gnB g).getD (j % 32) 0))) rfl rfl rfl (by kernel_rfl) (decide_eq_true (by simp only [nums_length, padN_len (show j ≤ (pgB g (rtS xs)).length by rw [pgB_len]; exact hj) (show j ≤ 256 by omega)]; omega)) (nums_set _ _ _ _) ?_
     clear HS
     intro w85 HS
     refine wpList_nil ?_
     refine fr_at (l' := (.int .u64 (uv g) :: .slice A xs.length c :: undef :: undef :: .pointer (some ⟨g5, 0, none⟩) :: .slice (some ad) ((rtS xs).length) nc20 :: .slice (some ah) 8 c51 :: .pointer (some ⟨g35, 0, none⟩) :: .int .i64 (k : Int) :: .int .i64 (j : Int) :: .slice A xs.length c :: .int .i64 (xs.length : Int) :: .int .u64 (uv (UInt64.ofNat xs.length)) :: .agg ([.int .u64 2, .int .u64 (uv (UInt64.ofNat xs.length))] : List Value).toArray :: .slice (some ⟨g12, 0, none⟩) 1 1 :: v15 :: V8.l qz49 (.int .i64 (j : Int) :: .bool (decide ((j : Int) < 256)) :: .int .i64 (j : Int) :: .int .i64 (j : Int) :: .int .i64 ((j % 32 : Nat) : Int) :: .bool (decide (((j % 32 : Nat) : Int) < 8)) :: .int .i64 (j : Int) :: .slice (some ah) 8 c51 :: .int .i64 (j : Int) :: .int .i64 ((j % 32 : Nat) : Int) :: .pointer (some ((ah).add ((j % 32 : Nat) * 1))) :: .int .u8 (bv ((gnB g).getD (j % 32) 0)) :: .pointer (some ⟨g35, j, none⟩) :: q55.f :: q55.g :: q55.h :: V8.l q56 (q57.a :: q57.b :: undef :: [])))) rfl ?_
     refine hK82 _ _ ?_
     refine wp_exit ?_
     refine hK69 _ _ ?_
     refine c_region (fun ops87 hops86 => ?_)
     clear hops86
     refine p_run _ (x_arith (k := .i64) (m := (j : Int)) (n := 1) .add (((j + 1 : Nat) : Int)) rfl rfl rfl (show IntKind.i64.wrap ((j : Int) + 1) = ((j + 1 : Nat) : Int) from ((wr64' (by omega)).trans (by omega))) rfl) rfl ?_
     refine p_run _ (x_move (.int .i64 ((j + 1 : Nat) : Int)) rfl rfl) rfl ?_
     refine wpList_nil ?_
     refine fr_at (l' := (.int .u64 (uv g) :: .slice A xs.length c :: undef :: undef :: .pointer (some ⟨g5, 0, none⟩) :: .slice (some ad) ((rtS xs).length) nc20 :: .slice (some ah) 8 c51 :: .pointer (some ⟨g35, 0, none⟩) :: .int .i64 (k : Int) :: .int .i64 (j : Int) :: .slice A xs.length c :: .int .i64 (xs.length : Int) :: .int .u64 (uv (UInt64.ofNat xs.length)) :: .agg ([.int .u64 2, .int .u64 (uv (UInt64.ofNat xs.length))] : List Value).toArray :: .slice (some ⟨g12, 0, none⟩) 1 1 :: v15 :: V8.l qz49 (.int .i64 ((j + 1 : Nat) : Int) :: .bool (decide ((j : Int) < 256)) :: .int .i64 (j : Int) :: .int .i64 (j : Int) :: .int .i64 ((j % 32 : Nat) : Int) :: .bool (decide (((j % 32 : Nat) : Int) < 8)) :: .int .i64 (j : Int) :: .slice (some ah) 8 c51 :: .int .i64 (j : Int) :: .int .i64 ((j % 32 : Nat) : Int) :: .pointer (some ((ah).add ((j % 32 : Nat) * 1))) :: .int .u8 (bv ((gnB g).getD (j % 32) 0)) :: .pointer (some ⟨g35, j, none⟩) :: q55.f :: q55.g :: q55.h :: V8.l q56 (q57.a :: .int .i64 ((j + 1 : Nat) : Int) :: undef :: [])))) rfl ?_
     rw [pp_set hlt (pg_hD hlt h8)] at HS
     refine hJ59 (j + 1, k) _ _ ?_ ?_
     ·show 256 - (j + 1) < 256 - j; omega
     ·exact ⟨⟨.int .i64 (j : Int), .bool (decide ((j : Int) < 256)), .int .i64 (j : Int), .int .i64 (j : Int), .int .i64 ((j % 32 : Nat) : Int), .bool (decide (((j % 32 : Nat) : Int) < 8)), .int .i64 (j : Int), .slice (some ah) 8 c51⟩, ⟨.int .i64 (j : Int), .int .i64 ((j % 32 : Nat) : Int), .pointer (some ((ah).add ((j % 32 : Nat) * 1))), .int .u8 (bv ((gnB g).getD (j % 32) 0)), .pointer (some ⟨g35, j, none⟩), q55.f, q55.g, q55.h⟩, q56, ⟨q57.a, .int .i64 ((j + 1 : Nat) : Int), undef, undef, undef, undef, undef, undef⟩, rfl, (((((((HS.front 6 rfl).front 6 rfl).front 6 rfl).front 6 rfl).front 6 rfl).front 6 rfl).front 6 rfl), ⟨(by omega), (by rw [kS_lo h8]; exact hk)⟩⟩
    ·have h8 : ¬ j % 32 < 8 := by have := of_decide_eq_false hc80; omega
     refine wp_skip ?_
     refine hK75 _ _ ?_
     refine wp_seq_k (fun K88 hK89 => ?_)
     refine wp_seq_k (fun K90 hK91 => ?_)
     refine c_region (fun ops93 hops92 => ?_)
     clear hops92
     refine p_run _ (x_move (.int .i64 (k : Int)) rfl rfl) rfl ?_
     refine p_run _ (x_move (.slice (some ad) ((rtS xs).length) nc20) rfl rfl) rfl ?_
     refine p_run _ (x_len rfl rfl Try.underlying24) rfl ?_
     refine p_run _ (x_cmp (k := .i64) (m := (k : Int)) (n := ((rtS xs).length : Int)) .lss (decide ((k : Int) < ((rtS xs).length : Int))) rfl rfl rfl rfl rfl) rfl ?_
     refine wpList_nil ?_
     refine hK91 _ _ ?_
     refine c_cond (t := decide ((k : Int) < ((rtS xs).length : Int))) rfl (fun hc94 => ?_) (fun hc94 => ?_)
     ·have hkl : k < (rtS xs).length := by have := of_decide_eq_true hc94; omega
      refine c_region (fun ops96 hops95 => ?_)
      clear hops95
      refine p_run _ (x_move (.int .i64 (j : Int)) rfl rfl) rfl ?_
      refine p_run _ (x_move (.slice (some ad) ((rtS xs).length) nc20) rfl rfl) rfl ?_
      refine p_run _ (x_move (.int .i64 (k : Int)) rfl rfl) rfl ?_
      refine p_run (l' := (.int .u64 (uv g) :: .slice A xs.length c :: undef :: undef :: .pointer (some ⟨g5, 0, none⟩) :: .slice (some ad) ((rtS xs).length) nc20 :: .slice (some ah) 8 c51 :: .pointer (some ⟨g35, 0, none⟩) :: .int .i64 (k : Int) :: .int .i64 (j : Int) :: .slice A xs.length c :: .int .i64 (xs.length : Int) :: .int .u64 (uv (UInt64.ofNat xs.length)) :: .agg ([.int .u64 2, .int .u64 (uv (UInt64.ofNat xs.length))] : List Value).toArray :: .slice (some ⟨g12, 0, none⟩) 1 1 :: v15 :: V8.l qz49 (.int .i64 (j : Int) :: .bool (decide ((j : Int) < 256)) :: .int .i64 (j : Int) :: .int .i64 (j : Int) :: .int .i64 ((j % 32 : Nat) : Int) :: .bool (decide (((j % 32 : Nat) : Int) < 8)) :: q54.g :: q54.h :: q55.a :: q55.b :: q55.c :: q55.d :: q55.e :: .int .i64 (k : Int) :: .slice (some ad) ((rtS xs).length) nc20 :: .int .i64 ((rtS xs).length : Int) :: .bool (decide ((k : Int) < ((rtS xs).length : Int))) :: .int .i64 (j : Int) :: .slice (some ad) ((rtS xs).length) nc20 :: .int .i64 (k : Int) :: .pointer (some ((ad).add (k * 1))) :: q56.f :: q56.g :: q56.h :: q57.a :: q57.b :: undef :: []))) _ (x_index (A := ad) (j := k * 1) (sz := 1) rfl rfl rfl Try.underlying24 (by kernel_rfl) (by omega) rfl) rfl ?_
      refine p_run _ (x_load (.int .u8 (bv ((rtS xs).getD k 0))) rfl rfl (rd_cellD (row_rd (HS.get (.tail _ (.tail _ (.tail _ (.head _)))))).2.2 hkl) (by rfl)) rfl ?_
      refine p_run _ (x_indexArr (sz := 1) (j := j) rfl rfl rfl Try.underlying38 (by kernel_rfl) (by omega) (by first | rfl | (simp; done) | (simp <;> omega) | omega)) rfl ?_
      refine St.store (cs' := (nums .u8 ((padN 256 (pgB g (rtS xs)) j).set j (bv ((rtS xs).getD k 0))))) HS (.int .u8 (bv ((rtS xs).getD k 0))) rfl rfl rfl (by kernel_rfl) (decide_eq_true (by simp only [nums_length, padN_len (show j ≤ (pgB g (rtS xs)).length by rw [pgB_len]; exact hj) (show j ≤ 256 by omega)]; omega)) (nums_set _ _ _ _) ?_
      clear HS
      intro w97 HS
      refine wpList_nil ?_
      refine hK89 _ _ ?_
      refine c_region (fun ops99 hops98 => ?_)
      clear hops98
      refine p_run _ (x_move (.int .i64 (k : Int)) rfl rfl) rfl ?_
      refine p_run _ (x_arith (k := .i64) (m := (k : Int)) (n := 1) .add (((k + 1 : Nat) : Int)) rfl rfl rfl (show IntKind.i64.wrap ((k : Int) + 1) = ((k + 1 : Nat) : Int) from ((wr64' (by omega)).trans (by omega))) rfl) rfl ?_
      refine p_run _ (x_assign (.int .i64 ((k + 1 : Nat) : Int)) rfl rfl) rfl ?_
      refine wpList_nil ?_
      refine hK69 _ _ ?_
      refine c_region (fun ops101 hops100 => ?_)
      clear hops100
      refine p_run _ (x_arith (k := .i64) (m := (j : Int)) (n := 1) .add (((j + 1 : Nat) : Int)) rfl rfl rfl (show IntKind.i64.wrap ((j : Int) + 1) = ((j + 1 : Nat) : Int) from ((wr64' (by omega)).trans (by omega))) rfl) rfl ?_
      refine p_run _ (x_move (.int .i64 ((j + 1 : Nat) : Int)) rfl rfl) rfl ?_
      refine wpList_nil ?_
      refine fr_at (l' := (.int .u64 (uv g) :: .slice A xs.length c :: undef :: undef :: .pointer (some ⟨g5, 0, none⟩) :: .slice (some ad) ((rtS xs).length) nc20 :: .slice (some ah) 8 c51 :: .pointer (some ⟨g35, 0, none⟩) :: .int .i64 ((k + 1 : Nat) : Int) :: .int .i64 (j : Int) :: .slice A xs.length c :: .int .i64 (xs.length : Int) :: .int .u64 (uv (UInt64.ofNat xs.length)) :: .agg ([.int .u64 2, .int .u64 (uv (UInt64.ofNat xs.length))] : List Value).toArray :: .slice (some ⟨g12, 0, none⟩) 1 1 :: v15 :: V8.l qz49 (.int .i64 ((j + 1 : Nat) : Int) :: .bool (decide ((j : Int) < 256)) :: .int .i64 (j : Int) :: .int .i64 (j : Int) :: .int .i64 ((j % 32 : Nat) : Int) :: .bool (decide (((j % 32 : Nat) : Int) < 8)) :: q54.g :: q54.h :: q55.a :: q55.b :: q55.c :: q55.d :: q55.e :: .int .i64 (k : Int) :: .slice (some ad) ((rtS xs).length) nc20 :: .int .i64 ((rtS xs).length : Int) :: .bool (decide ((k : Int) < ((rtS xs).length : Int))) :: .int .i64 (j : Int) :: .slice (some ad) ((rtS xs).length) nc20 :: .int .i64 (k : Int) :: .pointer (some ((ad).add (k * 1))) :: .int .u8 (bv ((rtS xs).getD k 0)) :: .pointer (some ⟨g35, j, none⟩) :: .int .i64 (k : Int) :: .int .i64 ((k + 1 : Nat) : Int) :: .int .i64 ((j + 1 : Nat) : Int) :: undef :: []))) rfl ?_
      rw [pp_set hlt (pg_bD hlt h8 hk hkl)] at HS
      refine hJ59 (j + 1, k + 1) _ _ ?_ ?_
      ·show 256 - (j + 1) < 256 - j; omega
      ·exact ⟨⟨.int .i64 (j : Int), .bool (decide ((j : Int) < 256)), .int .i64 (j : Int), .int .i64 (j : Int), .int .i64 ((j % 32 : Nat) : Int), .bool (decide (((j % 32 : Nat) : Int) < 8)), q54.g, q54.h⟩, ⟨q55.a, q55.b, q55.c, q55.d, q55.e, .int .i64 (k : Int), .slice (some ad) ((rtS xs).length) nc20, .int .i64 ((rtS xs).length : Int)⟩, ⟨.bool (decide ((k : Int) < ((rtS xs).length : Int))), .int .i64 (j : Int), .slice (some ad) ((rtS xs).length) nc20, .int .i64 (k : Int), .pointer (some ((ad).add (k * 1))), .int .u8 (bv ((rtS xs).getD k 0)), .pointer (some ⟨g35, j, none⟩), .int .i64 (k : Int)⟩, ⟨.int .i64 ((k + 1 : Nat) : Int), .int .i64 ((j + 1 : Nat) : Int), undef, undef, undef, undef, undef, undef⟩, rfl, (((((((HS.front 6 rfl).front 6 rfl).front 6 rfl).front 6 rfl).front 6 rfl).front 6 rfl).front 6 rfl), ⟨(by omega), (by rw [kS_hi h8, hk])⟩⟩
     ·have hkl : ¬ k < (rtS xs).length := by have := of_decide_eq_false hc94; omega
      refine wp_skip ?_
      refine hK89 _ _ ?_
      refine c_region (fun ops103 hops102 => ?_)
      clear hops102
      refine p_run _ (x_move (.int .i64 (k : Int)) rfl rfl) rfl ?_
      refine p_run _ (x_arith (k := .i64) (m := (k : Int)) (n := 1) .add (((k + 1 : Nat) : Int)) rfl rfl rfl (show IntKind.i64.wrap ((k : Int) + 1) = ((k + 1 : Nat) : Int) from ((wr64' (by omega)).trans (by omega))) rfl) rfl ?_
      refine p_run _ (x_assign (.int .i64 ((k + 1 : Nat) : Int)) rfl rfl) rfl ?_
      refine wpList_nil ?_
      refine hK69 _ _ ?_
      refine c_region (fun ops105 hops104 => ?_)
      clear hops104
      refine p_run _ (x_arith (k := .i64) (m := (j : Int)) (n := 1) .add (((j + 1 : Nat) : Int)) rfl rfl rfl (show IntKind.i64.wrap ((j : Int) + 1) = ((j + 1 : Nat) : Int) from ((wr64' (by omega)).trans (by omega))) rfl) rfl ?_
      refine p_run _ (x_move (.int .i64 ((j + 1 : Nat) : Int)) rfl rfl) rfl ?_
      refine wpList_nil ?_
      refine fr_at (l' := (.int .u64 (uv g) :: .slice A xs.length c :: undef :: undef :: .pointer (some ⟨g5, 0, none⟩) :: .slice (some ad) ((rtS xs).length) nc20 :: .slice (some ah) 8 c51 :: .pointer (some ⟨g35, 0, none⟩) :: .int .i64 ((k + 1 : Nat) : Int) :: .int .i64 (j : Int) :: .slice A xs.length c :: .int .i64 (xs.length : Int) :: .int .u64 (uv (UInt64.ofNat xs.length)) :: .agg ([.int .u64 2, .int .u64 (uv (UInt64.ofNat xs.length))] : List Value).toArray :: .slice (some ⟨g12, 0, none⟩) 1 1 :: v15 :: V8.l qz49 (.int .i64 ((j + 1 : Nat) : Int) :: .bool (decide ((j : Int) < 256)) :: .int .i64 (j : Int) :: .int .i64 (j : Int) :: .int .i64 ((j % 32 : Nat) : Int) :: .bool (decide (((j % 32 : Nat) : Int) < 8)) :: q54.g :: q54.h :: q55.a :: q55.b :: q55.c :: q55.d :: q55.e :: .int .i64 (k : Int) :: .slice (some ad) ((rtS xs).length) nc20 :: .int .i64 ((rtS xs).length : Int) :: .bool (decide ((k : Int) < ((rtS xs).length : Int))) :: q56.b :: q56.c :: q56.d :: q56.e :: q56.f :: q56.g :: .int .i64 (k : Int) :: .int .i64 ((k + 1 : Nat) : Int) :: .int .i64 ((j + 1 : Nat) : Int) :: undef :: []))) rfl ?_
      rw [pp_skip hlt (pg_pad hlt h8 (by rw [← hk]; exact hkl))] at HS
      refine hJ59 (j + 1, k + 1) _ _ ?_ ?_
      ·show 256 - (j + 1) < 256 - j; omega
      ·exact ⟨⟨.int .i64 (j : Int), .bool (decide ((j : Int) < 256)), .int .i64 (j : Int), .int .i64 (j : Int), .int .i64 ((j % 32 : Nat) : Int), .bool (decide (((j % 32 : Nat) : Int) < 8)), q54.g, q54.h⟩, ⟨q55.a, q55.b, q55.c, q55.d, q55.e, .int .i64 (k : Int), .slice (some ad) ((rtS xs).length) nc20, .int .i64 ((rtS xs).length : Int)⟩, ⟨.bool (decide ((k : Int) < ((rtS xs).length : Int))), q56.b, q56.c, q56.d, q56.e, q56.f, q56.g, .int .i64 (k : Int)⟩, ⟨.int .i64 ((k + 1 : Nat) : Int), .int .i64 ((j + 1 : Nat) : Int), undef, undef, undef, undef, undef, undef⟩, rfl, (((((((HS.front 6 rfl).front 6 rfl).front 6 rfl).front 6 rfl).front 6 rfl).front 6 rfl).front 6 rfl), ⟨(by omega), (by rw [kS_hi h8, hk])⟩⟩
   ·have hlt : j = 256 := by have := of_decide_eq_false hc67; omega
    subst hlt
    rw [pp_end] at HS
    refine wp_exit ?_
    refine hK44 _ _ ?_
    refine wp_seq_k (fun K106 hK107 => ?_)
    refine c_region (fun ops109 hops108 => ?_)
    clear hops108
    refine p_run _ (x_loads ((nums .u8 ((pgB g (rtS xs)).map bv))) 256 rfl rfl (bkCells (HS.get (.head _)) 0 _ (whole _)) (by rfl) (by kernel_rfl) (by simp [List.length_map, nums_length, pgB_len g (rtS xs)])) rfl ?_
    refine St.stores (cs' := ((nums .u8 ((pgB g (rtS xs)).map bv)))) (HS.front 6 rfl) ((nums .u8 ((pgB g (rtS xs)).map bv))) 256 rfl rfl (nums_one _ _) (by kernel_rfl) (by simp [List.length_map, nums_length, pgB_len g (rtS xs)]) (by simp [List.length_map, nums_length, pgB_len g (rtS xs), zlen]) (lay_all _ _ (by simp [List.length_map, nums_length, pgB_len g (rtS xs), zlen])) ?_
    clear HS
    intro w110 HS
    refine wpList_nil ?_
    refine hK107 _ _ ?_
    refine wp_ret ?_
    try simp only [Exit.inBlock, Exit.then]
    refine c_ret (.agg ((nums .u8 ((pgB g (rtS xs)).map bv))).toArray) (r_c rfl rfl (run_loadVar_aggn (by rfl) ((nums .u8 ((pgB g (rtS xs)).map bv))) 256 (by kernel_rfl) (by simp [List.length_map, nums_length, pgB_len g (rtS xs)]) (bkCells (HS.get (.head _)) 0 _ (whole _)))) ?_
    exact ⟨rfl, HS.drop.drop.drop.drop.drop.drop.drop⟩
set_option maxRecDepth 10000 in
set_option maxHeartbeats 1000000 in
theorem rtnum_any (HS : St w0 F W L) (q : List UInt8) (hq : q.length = 256) (a : Nat) (ha : a + 8 ≤ 256) : Calls Try.prog 45 #[.agg ((nums .u8 (q.map bv))).toArray, .int .i64 (a : Int)] W fun e w' => e = .returned (.int .u64 (numR q a 0 : Int)) ∧ St w0 F w' L := by
 refine c_enter Try.func45 rfl 21 rfl (.agg ((nums .u8 (q.map bv))).toArray :: .int .i64 (a : Int) :: U16vrf1 (undef :: undef :: undef :: [])) rfl ?_
 refine wp_seq_k (fun K1 hK2 => ?_)
 refine c_region (fun ops4 hops3 => ?_)
 clear hops3
 refine St.wBox HS (cs := ((nums .u8 (q.map bv)))) (.agg ((nums .u8 (q.map bv))).toArray) rfl rfl ?_
 clear HS
 intro g5 w6 hg7 HS
 refine p_run _ (x_assign (.int .u64 0) rfl rfl) rfl ?_
 refine wpList_nil ?_
 refine hK2 _ _ ?_
 refine wp_seq_k (fun K8 hK9 => ?_)
 skip
 ·refine c_region (fun ops11 hops10 => ?_)
  clear hops10
  refine p_run _ (x_assign (.int .u64 0) rfl rfl) rfl ?_
  refine wpList_nil ?_
  refine hK9 _ _ ?_
  refine wp_seq_k (fun K12 hK13 => ?_)
  refine wp_seq_k (fun K14 hK15 => ?_)
  refine c_region (fun ops17 hops16 => ?_)
  clear hops16
  refine p_run _ (x_assign (.int .i64 7) rfl rfl) rfl ?_
  refine wpList_nil ?_
  refine fr_at (l' := (.agg ((nums .u8 (q.map bv))).toArray :: .int .i64 (a : Int) :: .pointer (some ⟨g5, 0, none⟩) :: undef :: .int .u64 0 :: .int .u64 0 :: .int .i64 7 :: U8vrf1 (U4vrf1 (undef :: undef :: [])))) rfl ?_
  refine hK15 _ _ ?_
  refine wp_block ?_
  refine c_loop (ι := Nat × Nat) (fun i_ a_ w_ => match i_ with | (m, n_) => ∃ (u7 : Value) (u8 : Value) (u9 : Value) (u10 : Value) (u11 : Value) (u12 : Value) (u13 : Value) (u14 : Value) (u15 : Value) (u16 : Value) (u17 : Value) (u18 : Value) (u19 : Value), a_ = fr (.agg ((nums .u8 (q.map bv))).toArray :: .int .i64 (a : Int) :: .pointer (some ⟨g5, 0, none⟩) :: undef :: .int .u64 0 :: .int .u64 (n_ : Int) :: .int .i64 ((m : Int) - 1) :: u7 :: u8 :: u9 :: u10 :: u11 :: u12 :: u13 :: u14 :: u15 :: u16 :: u17 :: u18 :: u19 :: undef :: []) ∧ St w0 F w_ (blk g5 ((nums .u8 (q.map bv))) 38 :: L) ∧ (m ≤ 8 ∧ n_ = numR q a m)) (fun i_ => match i_ with | (m, n_) => m) (8, 0) ?_ ?_
  ·exact ⟨_, _, _, _, _, _, _, _, _, _, _, _, _, rfl, HS, ⟨by omega, (numR_end a).symm⟩⟩
  ·clear HS
   rintro ⟨m, n_⟩ a_ w20 ⟨u7, u8, u9, u10, u11, u12, u13, u14, u15, u16, u17, u18, u19, rfl, HS, hI⟩ J18 hJ19
   obtain ⟨hm, hn⟩ := hI
   subst hn
   refine wp_seq_k (fun K21 hK22 => ?_)
   refine wp_seq_k (fun K23 hK24 => ?_)
   rcases m with _ | m
   ·refine c_region (fun ops26 hops25 => ?_)
    clear hops25
    refine p_run _ (x_move (.int .i64 ((0 : Int) - 1)) rfl rfl) rfl ?_
    refine p_run _ (x_cmp (k := .i64) (m := ((0 : Int) - 1)) (n := 0) .geq false rfl rfl rfl (by decide) rfl) rfl ?_
    refine wpList_nil ?_
    refine hK24 _ _ ?_
    refine c_false rfl ?_
    refine wp_exit ?_
    refine hK13 _ _ ?_
    refine wp_seq_k (fun K27 hK28 => ?_)
    refine c_region (fun ops30 hops29 => ?_)
    clear hops29
    refine p_run _ (x_move (.int .u64 ((numR q a 0) : Int)) rfl rfl) rfl ?_
    refine p_run _ (x_assign (.int .u64 ((numR q a 0) : Int)) rfl rfl) rfl ?_
    refine wpList_nil ?_
    refine hK28 _ _ ?_
    refine wp_ret ?_
    try simp only [Exit.inBlock, Exit.then]
    refine c_ret (.int .u64 ((numR q a 0) : Int)) (r_tmp rfl rfl) ?_
    exact ⟨rfl, HS.drop⟩
   ·rw [show (((m + 1 : Nat) : Int) - 1) = (m : Int) from by omega]
    refine c_region (fun ops32 hops31 => ?_)
    clear hops31
    refine p_run _ (x_move (.int .i64 (m : Int)) rfl rfl) rfl ?_
    refine p_run _ (x_cmp (k := .i64) (m := (m : Int)) (n := 0) .geq true rfl rfl rfl (show decide ((m : Int) ≥ 0) = true from decide_eq_true (by omega)) rfl) rfl ?_
    refine wpList_nil ?_
    refine fr_at (l' := (.agg ((nums .u8 (q.map bv))).toArray :: .int .i64 (a : Int) :: .pointer (some ⟨g5, 0, none⟩) :: undef :: .int .u64 0 :: .int .u64 ((numR q a (m + 1)) : Int) :: .int .i64 (m : Int) :: .int .i64 (m : Int) :: .bool true :: u9 :: u10 :: u11 :: u12 :: u13 :: u14 :: u15 :: u16 :: u17 :: u18 :: u19 :: undef :: [])) rfl ?_
    refine hK24 _ _ ?_
    refine c_true rfl ?_
    refine wp_skip ?_
    refine hK22 _ _ ?_
    refine wp_seq_k (fun K33 hK34 => ?_)
    refine wp_block ?_
    refine c_region (fun ops36 hops35 => ?_)
    clear hops35
    refine p_run _ (x_move (.int .u64 ((numR q a (m + 1)) : Int)) rfl rfl) rfl ?_
    refine p_run _ (x_arith (k := .u64) (m := ((numR q a (m + 1)) : Int)) (n := 256) .mul (IntKind.u64.wrap (((numR q a (m + 1)) : Int) * 256)) rfl rfl rfl rfl rfl) rfl ?_
    refine p_run _ (x_move (.int .i64 (a : Int)) rfl rfl) rfl ?_
    refine p_run _ (x_move (.int .i64 (m : Int)) rfl rfl) rfl ?_
    refine p_run _ (x_arith (k := .i64) (m := (a : Int)) (n := (m : Int)) .add (((a + m : Nat) : Int)) rfl rfl rfl (show IntKind.i64.wrap ((a : Int) + (m : Int)) = ((a + m : Nat) : Int) from ((wr64' (by omega)).trans (by omega))) rfl) rfl ?_
    refine p_run _ (x_indexArr (sz := 1) (j := (a + m : Nat)) rfl rfl rfl Try.underlying38 (by kernel_rfl) (by omega) (by first | rfl | (simp; done) | (simp <;> omega) | omega)) rfl ?_
    refine p_run _ (x_load (.int .u8 (bv (q.getD (a + m : Nat) 0))) rfl rfl (bkCell (HS.get (.head _)) (a + m : Nat) _ (nb_at (by omega))) (by rfl)) rfl ?_
    refine p_run (l' := (.agg ((nums .u8 (q.map bv))).toArray :: .int .i64 (a : Int) :: .pointer (some ⟨g5, 0, none⟩) :: undef :: .int .u64 0 :: .int .u64 ((numR q a (m + 1)) : Int) :: .int .i64 (m : Int) :: .int .i64 (m : Int) :: .bool true :: u9 :: u10 :: .int .u64 ((numR q a (m + 1)) : Int) :: .int .u64 (IntKind.u64.wrap (((numR q a (m + 1)) : Int) * 256)) :: .int .i64 (a : Int) :: .int .i64 (m : Int) :: .int .i64 ((a + m : Nat) : Int) :: .pointer (some ⟨g5, (a + m : Nat), none⟩) :: .int .u8 (bv (q.getD (a + m : Nat) 0)) :: .int .u64 (bv (q.getD (a + m) 0)) :: u19 :: undef :: [])) _ (x_conv (k := .u8) (m := (bv (q.getD (a + m : Nat) 0))) .u64 ((bv (q.getD (a + m) 0))) rfl (by rw [Try.underlying5]; rfl) Try.underlying25 rfl (cb64 _)) rfl ?_
    refine p_run _ (x_arith (k := .u64) (m := IntKind.u64.wrap (((numR q a (m + 1)) : Int) * 256)) (n := (bv (q.getD (a + m) 0))) .add ((numR q a m : Int)) rfl rfl rfl (show IntKind.u64.wrap ((IntKind.u64.wrap (((numR q a (m + 1)) : Int) * 256)) + (bv (q.getD (a + m) 0))) = (numR q a m : Int) from (num_wrap (by omega) (by omega) rfl)) rfl) rfl ?_
    refine p_run _ (x_assign (.int .u64 (numR q a m : Int)) rfl rfl) rfl ?_
    refine wpList_nil ?_
    refine hK34 _ _ ?_
    refine c_region (fun ops38 hops37 => ?_)
    clear hops37
    refine p_run _ (x_move (.int .i64 (m : Int)) rfl rfl) rfl ?_
    refine p_run _ (x_arith (k := .i64) (m := (m : Int)) (n := 1) .sub (((m : Int) - 1)) rfl rfl rfl (show IntKind.i64.wrap ((m : Int) - 1) = ((m : Int) - 1) from ((wr64' (by omega)).trans rfl)) rfl) rfl ?_
    refine p_run _ (x_assign (.int .i64 ((m : Int) - 1)) rfl rfl) rfl ?_
    refine wpList_nil ?_
    refine fr_at (l' := (.agg ((nums .u8 (q.map bv))).toArray :: .int .i64 (a : Int) :: .pointer (some ⟨g5, 0, none⟩) :: undef :: .int .u64 0 :: .int .u64 (numR q a m : Int) :: .int .i64 ((m : Int) - 1) :: .int .i64 (m : Int) :: .bool true :: .int .i64 (m : Int) :: .int .i64 ((m : Int) - 1) :: .int .u64 ((numR q a (m + 1)) : Int) :: .int .u64 (IntKind.u64.wrap (((numR q a (m + 1)) : Int) * 256)) :: .int .i64 (a : Int) :: .int .i64 (m : Int) :: .int .i64 ((a + m : Nat) : Int) :: .pointer (some ⟨g5, (a + m : Nat), none⟩) :: .int .u8 (bv (q.getD (a + m : Nat) 0)) :: .int .u64 (bv (q.getD (a + m) 0)) :: .int .u64 (numR q a m : Int) :: undef :: [])) rfl ?_
    refine hJ19 (m, numR q a m) _ _ ?_ ?_
    ·show m < m + 1; omega
    ·exact ⟨_, _, _, _, _, _, _, _, _, _, _, _, _, rfl, HS, ⟨(by omega), rfl⟩⟩
theorem rthd_any (HS : St w0 F W L) (q : List UInt8) (hq : q.length = 256) {a : Nat} (s : Nat) (hs : s < 8) (ha : a = 32 * s) : Calls Try.prog 45 #[.agg (nums .u8 (q.map bv)).toArray, .int .i64 (a : Int)] W fun e w' => e = .returned (.int .u64 (uv (hdB q s))) ∧ St w0 F w' L := by
 subst ha
 refine (rtnum_any HS q hq (32 * s) (by omega)).mono ?_
 rintro e w' ⟨rfl, HS⟩
 rw [numR_hd]
 exact ⟨rfl, HS⟩
theorem op_four (q : List UInt8) (s : Nat) : (okR q s = false ∧ hdB q 0 = 0) ∨ (okR q s = false ∧ hdB q 0 ≠ 0 ∧ ¬ (hdB q 0).toNat % 2 = s) ∨ (okR q s = false ∧ hdB q 0 ≠ 0 ∧ (hdB q 0).toNat % 2 = s ∧ ¬ szR q ≤ 186) ∨
  (hdB q 0 ≠ 0 ∧ (hdB q 0).toNat % 2 = s ∧ szR q ≤ 186 ∧ ((okR q s = false ∧ ¬ q = pgB (hdB q 0) (rtS (ctR q))) ∨ (okR q s = true ∧ q = pgB (hdB q 0) (rtS (ctR q))))) := by
 rcases op_split q s with h | h | h | ⟨a, b, c, d, e⟩ | ⟨a, b, c, d, e⟩
 ·exact .inl h
 ·exact .inr (.inl h)
 ·exact .inr (.inr (.inl h))
 ·exact .inr (.inr (.inr ⟨b, c, d, .inl ⟨a, e⟩⟩))
 ·exact .inr (.inr (.inr ⟨b, c, d, .inr ⟨a, e⟩⟩))
set_option maxRecDepth 10000 in
set_option maxHeartbeats 2000000 in
theorem rtopen_any (HS : St w0 F W L) (q : List UInt8) (hq : q.length = 256) (s : Nat) : Calls Try.prog 44 #[.agg ((nums .u8 (q.map bv))).toArray, .int .i64 (s : Int)] W fun e w' => ∃ v xs g, e = .returned (.tuple #[v, .int .u64 (uv g), .bool (okR q s)]) ∧ St w0 F w' (row kByte rfl 5 v xs :: L) ∧ (okR q s = true → xs = cnU q s ∧ g = gnU q s) := by
 refine c_enter Try.func44 rfl 57 rfl (.agg ((nums .u8 (q.map bv))).toArray :: .int .i64 (s : Int) :: U32vrf1 (U16vrf1 (U4vrf1 (undef :: undef :: undef :: [])))) rfl ?_
 refine wp_seq_k (fun K1 hK2 => ?_)
 refine c_region (fun ops4 hops3 => ?_)
 clear hops3
 refine St.wBox HS (cs := ((nums .u8 (q.map bv)))) (.agg ((nums .u8 (q.map bv))).toArray) rfl rfl ?_
 clear HS
 intro g5 w6 hg7 HS
 refine p_run _ (x_assign (.slice none 0 0) rfl rfl) rfl ?_
 refine p_run _ (x_assign (.int .u64 0) rfl rfl) rfl ?_
 refine p_run _ (x_assign (.bool false) rfl rfl) rfl ?_
 refine wpList_nil ?_
 refine hK2 _ _ ?_
 refine wp_seq_k (fun K8 hK9 => ?_)
 skip
 ·refine c_region (fun ops11 hops10 => ?_)
  clear hops10
  refine p_run _ (x_loads ((nums .u8 (q.map bv))) 256 rfl rfl (bkCells (HS.get (.head _)) 0 _ (whole _)) (by rfl) (by kernel_rfl) (by simp [List.length_map, hq, nums_length])) rfl ?_
  refine w_call [.agg ((nums .u8 (q.map bv))).toArray, .int .i64 0] Try.func45 (by kernel_rfl) (by rfl) rfl ?_
  refine (rthd_any HS q hq (a := 0) 0 (by decide) rfl).mono ?_
  clear HS
  rintro e w12 ⟨rfl, HS⟩
  refine ⟨_, rfl, ?_⟩
  refine p_run _ (x_assign (.int .u64 (uv (hdB q 0))) rfl rfl) rfl ?_
  refine wpList_nil ?_
  refine fr_at (l' := (.agg ((nums .u8 (q.map bv))).toArray :: .int .i64 (s : Int) :: .pointer (some ⟨g5, 0, none⟩) :: undef :: .slice none 0 0 :: .int .u64 0 :: .bool false :: .int .u64 (uv (hdB q 0)) :: undef :: undef :: undef :: .agg ((nums .u8 (q.map bv))).toArray :: .int .u64 (uv (hdB q 0)) :: U32vrf1 (U8vrf1 (U4vrf1 ([]))))) rfl ?_
  refine hK9 _ _ ?_
  refine wp_seq_k (fun K13 hK14 => ?_)
  refine c_region (fun ops16 hops15 => ?_)
  clear hops15
  refine p_run _ (x_indexArr (sz := 1) (j := 8) rfl rfl rfl Try.underlying38 (by kernel_rfl) (by omega) rfl) rfl ?_
  refine p_run _ (x_load (.int .u8 (bv (q.getD 8 0))) rfl rfl (bkCell (HS.get (.head _)) 8 _ (nb_at (by omega))) (by rfl)) rfl ?_
  refine p_run _ (x_conv (k := .u8) (m := (bv (q.getD 8 0))) .i64 ((bv (q.getD 8 0))) rfl (by rw [Try.underlying5]; rfl) Try.underlying3 rfl (ci64 _)) rfl ?_
  refine p_run _ (x_indexArr (sz := 1) (j := 9) rfl rfl rfl Try.underlying38 (by kernel_rfl) (by omega) rfl) rfl ?_
  refine p_run _ (x_load (.int .u8 (bv (q.getD 9 0))) rfl rfl (bkCell (HS.get (.head _)) 9 _ (nb_at (by omega))) (by rfl)) rfl ?_
  refine p_run _ (x_conv (k := .u8) (m := (bv (q.getD 9 0))) .i64 ((bv (q.getD 9 0))) rfl (by rw [Try.underlying5]; rfl) Try.underlying3 rfl (ci64 _)) rfl ?_
  refine p_run _ (x_arith (k := .i64) (m := 256) (n := (bv (q.getD 9 0))) .mul ((256 * bv (q.getD 9 0))) rfl rfl rfl (show IntKind.i64.wrap (256 * (bv (q.getD 9 0))) = (256 * bv (q.getD 9 0)) from (ci256 _)) rfl) rfl ?_
  refine p_run (l' := (.agg ((nums .u8 (q.map bv))).toArray :: .int .i64 (s : Int) :: .pointer (some ⟨g5, 0, none⟩) :: undef :: .slice none 0 0 :: .int .u64 0 :: .bool false :: .int .u64 (uv (hdB q 0)) :: undef :: undef :: undef :: .agg ((nums .u8 (q.map bv))).toArray :: .int .u64 (uv (hdB q 0)) :: .pointer (some ⟨g5, 8, none⟩) :: .int .u8 (bv (q.getD 8 0)) :: .int .i64 (bv (q.getD 8 0)) :: .pointer (some ⟨g5, 9, none⟩) :: .int .u8 (bv (q.getD 9 0)) :: .int .i64 (bv (q.getD 9 0)) :: .int .i64 (256 * bv (q.getD 9 0)) :: .int .i64 (szR q : Int) :: U32vrf1 (U4vrf1 ([])))) _ (x_arith (k := .i64) (m := (bv (q.getD 8 0))) (n := (256 * bv (q.getD 9 0))) .add ((szR q : Int)) rfl rfl rfl (show IntKind.i64.wrap ((bv (q.getD 8 0)) + (256 * bv (q.getD 9 0))) = (szR q : Int) from (sz_i64 hq)) rfl) rfl ?_
  refine p_run _ (x_assign (.int .i64 (szR q : Int)) rfl rfl) rfl ?_
  refine wpList_nil ?_
  refine hK14 _ _ ?_
  refine wp_seq_k (fun K17 hK18 => ?_)
  refine wp_seq_k (fun K19 hK20 => ?_)
  rcases op_four q s with ⟨hok, h1⟩ | ⟨hok, h1, h2⟩ | ⟨hok, h1, h2, h3⟩ | ⟨h1, h2, h3, h45⟩
  ·refine c_region (fun ops22 hops21 => ?_)
   refine p_run _ (x_move (.int .u64 (uv (hdB q 0))) rfl rfl) rfl ?_
   refine p_run _ (x_cmp (k := .u64) (m := (uv (hdB q 0))) (n := 0) .eql true rfl rfl rfl (by rw [h1]; rfl) rfl) rfl ?_
   refine p_run _ (x_move (.bool true) rfl rfl) rfl ?_
   refine p_off (by rw [hops21]; rfl) rfl ?_
   refine p_off (by rw [hops21]; rfl) rfl ?_
   refine p_off (by rw [hops21]; rfl) rfl ?_
   refine p_off (l' := (.agg ((nums .u8 (q.map bv))).toArray :: .int .i64 (s : Int) :: .pointer (some ⟨g5, 0, none⟩) :: undef :: .slice none 0 0 :: .int .u64 0 :: .bool false :: .int .u64 (uv (hdB q 0)) :: .int .i64 (szR q : Int) :: undef :: undef :: .agg ((nums .u8 (q.map bv))).toArray :: .int .u64 (uv (hdB q 0)) :: .pointer (some ⟨g5, 8, none⟩) :: .int .u8 (bv (q.getD 8 0)) :: .int .i64 (bv (q.getD 8 0)) :: .pointer (some ⟨g5, 9, none⟩) :: .int .u8 (bv (q.getD 9 0)) :: .int .i64 (bv (q.getD 9 0)) :: .int .i64 (256 * bv (q.getD 9 0)) :: .int .i64 (szR q : Int) :: .int .u64 (uv (hdB q 0)) :: .bool true :: .bool true :: U32vrf1 (undef :: []))) (by rw [hops21]; rfl) rfl ?_
   refine p_off (by rw [hops21]; rfl) rfl ?_
   refine p_run _ (x_pick true (.bool true) (undef) (.bool true) rfl rfl rfl rfl rfl) rfl ?_
   refine p_run _ (x_move (.bool true) rfl rfl) rfl ?_
   refine p_off (by rw [hops21]; rfl) rfl ?_
   refine p_off (by rw [hops21]; rfl) rfl ?_
   refine p_run _ (x_pick true (.bool true) (undef) (.bool true) rfl rfl rfl rfl rfl) rfl ?_
   clear hops21
   refine wpList_nil ?_
   obtain ⟨qz23, hqz23⟩ : ∃ q_ : V8, q_ = ⟨.pointer (some ⟨g5, 9, none⟩), .int .u8 (bv (q.getD 9 0)), .int .i64 (bv (q.getD 9 0)), .int .i64 (256 * bv (q.getD 9 0)), .int .i64 (szR q : Int), .int .u64 (uv (hdB q 0)), .bool true, .bool true⟩ := ⟨_, rfl⟩
   obtain ⟨qz24, hqz24⟩ : ∃ q_ : V8, q_ = ⟨undef, undef, undef, undef, undef, .bool true, .bool true, undef⟩ := ⟨_, rfl⟩
   refine fr_at (l' := (.agg ((nums .u8 (q.map bv))).toArray :: .int .i64 (s : Int) :: .pointer (some ⟨g5, 0, none⟩) :: undef :: .slice none 0 0 :: .int .u64 0 :: .bool false :: .int .u64 (uv (hdB q 0)) :: .int .i64 (szR q : Int) :: undef :: undef :: .agg ((nums .u8 (q.map bv))).toArray :: .int .u64 (uv (hdB q 0)) :: .pointer (some ⟨g5, 8, none⟩) :: .int .u8 (bv (q.getD 8 0)) :: .int .i64 (bv (q.getD 8 0)) :: V8.l qz23 (V8.l qz24 (undef :: .bool true :: U16vrf1 (U4vrf1 (undef :: undef :: undef :: [])))))) (by subst hqz23 hqz24; rfl) ?_
   refine hK20 _ _ ?_
   refine c_true rfl ?_
   refine wp_seq_k (fun K25 hK26 => ?_)
   refine c_region (fun ops28 hops27 => ?_)
   clear hops27
   refine p_run _ (x_assign (.slice none 0 0) rfl rfl) rfl ?_
   refine p_run _ (x_assign (.int .u64 0) rfl rfl) rfl ?_
   refine p_run _ (x_assign (.bool false) rfl rfl) rfl ?_
   refine wpList_nil ?_
   refine hK26 _ _ ?_
   refine wp_ret ?_
   try simp only [Exit.inBlock, Exit.then]
   refine c_ret (.tuple [.slice none 0 0, .int .u64 0, .bool false].toArray) (r_tmp3 rfl rfl rfl rfl) ?_
   replace HS := HS.nil kByte rfl 5
   rw [hok]
   exact ⟨_, [], 0, rfl, (HS.front 1 rfl).drop, fun h => by cases h⟩
  ·refine c_region (fun ops30 hops29 => ?_)
   refine p_run _ (x_move (.int .u64 (uv (hdB q 0))) rfl rfl) rfl ?_
   refine p_run _ (x_cmp (k := .u64) (m := (uv (hdB q 0))) (n := 0) .eql false rfl rfl rfl (by simp [cmpB, uv_nz h1]) rfl) rfl ?_
   refine p_run _ (x_move (.bool false) rfl rfl) rfl ?_
   refine p_on rfl (by rw [hops29]; rfl) ?_
   refine p_run _ (x_move (.int .u64 (uv (hdB q 0))) rfl rfl) rfl ?_
   refine p_on rfl (by rw [hops29]; rfl) ?_
   refine p_run (l' := (.agg ((nums .u8 (q.map bv))).toArray :: .int .i64 (s : Int) :: .pointer (some ⟨g5, 0, none⟩) :: undef :: .slice none 0 0 :: .int .u64 0 :: .bool false :: .int .u64 (uv (hdB q 0)) :: .int .i64 (szR q : Int) :: undef :: undef :: .agg ((nums .u8 (q.map bv))).toArray :: .int .u64 (uv (hdB q 0)) :: .pointer (some ⟨g5, 8, none⟩) :: .int .u8 (bv (q.getD 8 0)) :: .int .i64 (bv (q.getD 8 0)) :: .pointer (some ⟨g5, 9, none⟩) :: .int .u8 (bv (q.getD 9 0)) :: .int .i64 (bv (q.getD 9 0)) :: .int .i64 (256 * bv (q.getD 9 0)) :: .int .i64 (szR q : Int) :: .int .u64 (uv (hdB q 0)) :: .bool false :: .bool false :: .int .u64 (uv (hdB q 0)) :: .int .u64 (uv (hdB q 0) % 2) :: U16vrf1 (U8vrf1 (U4vrf1 (undef :: undef :: undef :: []))))) _ (x_rem (k := .u64) (m := (uv (hdB q 0))) (n := 2) ((uv (hdB q 0) % 2)) rfl rfl rfl (by decide) (mod2 _)) rfl ?_
   refine p_on rfl (by rw [hops29]; rfl) ?_
   refine p_run _ (x_conv (k := .u64) (m := (uv (hdB q 0) % 2)) .i64 ((uv (hdB q 0) % 2)) rfl (by rw [Try.underlying25]; rfl) Try.underlying3 rfl (wr64' (by have := uv_lo (hdB q 0); omega))) rfl ?_
   refine p_on rfl (by rw [hops29]; rfl) ?_
   refine p_run _ (x_move (.int .i64 (s : Int)) rfl rfl) rfl ?_
   refine p_on rfl (by rw [hops29]; rfl) ?_
   refine p_run _ (x_cmp (k := .i64) (m := (uv (hdB q 0) % 2)) (n := (s : Int)) .neq true rfl rfl rfl (by rw [uv_mod]; simp [cmpB]; omega) rfl) rfl ?_
   refine p_run _ (x_pick false (.bool true) (.bool true) (.bool true) rfl rfl rfl rfl rfl) rfl ?_
   refine p_run _ (x_move (.bool true) rfl rfl) rfl ?_
   refine p_off (by rw [hops29]; rfl) rfl ?_
   refine p_off (by rw [hops29]; rfl) rfl ?_
   refine p_run (l' := (.agg ((nums .u8 (q.map bv))).toArray :: .int .i64 (s : Int) :: .pointer (some ⟨g5, 0, none⟩) :: undef :: .slice none 0 0 :: .int .u64 0 :: .bool false :: .int .u64 (uv (hdB q 0)) :: .int .i64 (szR q : Int) :: undef :: undef :: .agg ((nums .u8 (q.map bv))).toArray :: .int .u64 (uv (hdB q 0)) :: .pointer (some ⟨g5, 8, none⟩) :: .int .u8 (bv (q.getD 8 0)) :: .int .i64 (bv (q.getD 8 0)) :: .pointer (some ⟨g5, 9, none⟩) :: .int .u8 (bv (q.getD 9 0)) :: .int .i64 (bv (q.getD 9 0)) :: .int .i64 (256 * bv (q.getD 9 0)) :: .int .i64 (szR q : Int) :: .int .u64 (uv (hdB q 0)) :: .bool false :: .bool false :: .int .u64 (uv (hdB q 0)) :: .int .u64 (uv (hdB q 0) % 2) :: .int .i64 (uv (hdB q 0) % 2) :: .int .i64 (s : Int) :: .bool true :: .bool true :: .bool true :: undef :: undef :: .bool true :: U16vrf1 (U4vrf1 (undef :: undef :: undef :: [])))) _ (x_pick true (.bool true) (undef) (.bool true) rfl rfl rfl rfl rfl) rfl ?_
   clear hops29
   refine wpList_nil ?_
   refine hK20 _ _ ?_
   refine c_true rfl ?_
   refine wp_seq_k (fun K31 hK32 => ?_)
   refine c_region (fun ops34 hops33 => ?_)
   clear hops33
   refine p_run _ (x_assign (.slice none 0 0) rfl rfl) rfl ?_
   refine p_run _ (x_assign (.int .u64 0) rfl rfl) rfl ?_
   refine p_run _ (x_assign (.bool false) rfl rfl) rfl ?_
   refine wpList_nil ?_
   refine hK32 _ _ ?_
   refine wp_ret ?_
   try simp only [Exit.inBlock, Exit.then]
   refine c_ret (.tuple [.slice none 0 0, .int .u64 0, .bool false].toArray) (r_tmp3 rfl rfl rfl rfl) ?_
   replace HS := HS.nil kByte rfl 5
   rw [hok]
   exact ⟨_, [], 0, rfl, (HS.front 1 rfl).drop, fun h => by cases h⟩
  ·refine c_region (fun ops36 hops35 => ?_)
   refine p_run _ (x_move (.int .u64 (uv (hdB q 0))) rfl rfl) rfl ?_
   refine p_run _ (x_cmp (k := .u64) (m := (uv (hdB q 0))) (n := 0) .eql false rfl rfl rfl (by simp [cmpB, uv_nz h1]) rfl) rfl ?_
   refine p_run _ (x_move (.bool false) rfl rfl) rfl ?_
   refine p_on rfl (by rw [hops35]; rfl) ?_
   refine p_run _ (x_move (.int .u64 (uv (hdB q 0))) rfl rfl) rfl ?_
   refine p_on rfl (by rw [hops35]; rfl) ?_
   refine p_run (l' := (.agg ((nums .u8 (q.map bv))).toArray :: .int .i64 (s : Int) :: .pointer (some ⟨g5, 0, none⟩) :: undef :: .slice none 0 0 :: .int .u64 0 :: .bool false :: .int .u64 (uv (hdB q 0)) :: .int .i64 (szR q : Int) :: undef :: undef :: .agg ((nums .u8 (q.map bv))).toArray :: .int .u64 (uv (hdB q 0)) :: .pointer (some ⟨g5, 8, none⟩) :: .int .u8 (bv (q.getD 8 0)) :: .int .i64 (bv (q.getD 8 0)) :: .pointer (some ⟨g5, 9, none⟩) :: .int .u8 (bv (q.getD 9 0)) :: .int .i64 (bv (q.getD 9 0)) :: .int .i64 (256 * bv (q.getD 9 0)) :: .int .i64 (szR q : Int) :: .int .u64 (uv (hdB q 0)) :: .bool false :: .bool false :: .int .u64 (uv (hdB q 0)) :: .int .u64 (uv (hdB q 0) % 2) :: U16vrf1 (U8vrf1 (U4vrf1 (undef :: undef :: undef :: []))))) _ (x_rem (k := .u64) (m := (uv (hdB q 0))) (n := 2) ((uv (hdB q 0) % 2)) rfl rfl rfl (by decide) (mod2 _)) rfl ?_
   refine p_on rfl (by rw [hops35]; rfl) ?_
   refine p_run _ (x_conv (k := .u64) (m := (uv (hdB q 0) % 2)) .i64 ((uv (hdB q 0) % 2)) rfl (by rw [Try.underlying25]; rfl) Try.underlying3 rfl (wr64' (by have := uv_lo (hdB q 0); omega))) rfl ?_
   refine p_on rfl (by rw [hops35]; rfl) ?_
   refine p_run _ (x_move (.int .i64 (s : Int)) rfl rfl) rfl ?_
   refine p_on rfl (by rw [hops35]; rfl) ?_
   refine p_run _ (x_cmp (k := .i64) (m := (uv (hdB q 0) % 2)) (n := (s : Int)) .neq false rfl rfl rfl (by rw [uv_mod, h2]; simp [cmpB]) rfl) rfl ?_
   refine p_run _ (x_pick false (.bool true) (.bool false) (.bool false) rfl rfl rfl rfl rfl) rfl ?_
   refine p_run _ (x_move (.bool false) rfl rfl) rfl ?_
   refine p_on rfl (by rw [hops35]; rfl) ?_
   refine p_run _ (x_move (.int .i64 (szR q : Int)) rfl rfl) rfl ?_
   refine p_on rfl (by rw [hops35]; rfl) ?_
   refine p_run _ (x_cmp (k := .i64) (m := (szR q : Int)) (n := 186) .gtr true rfl rfl rfl (show decide ((szR q : Int) > 186) = true from decide_eq_true (by omega)) rfl) rfl ?_
   refine p_run (l' := (.agg ((nums .u8 (q.map bv))).toArray :: .int .i64 (s : Int) :: .pointer (some ⟨g5, 0, none⟩) :: undef :: .slice none 0 0 :: .int .u64 0 :: .bool false :: .int .u64 (uv (hdB q 0)) :: .int .i64 (szR q : Int) :: undef :: undef :: .agg ((nums .u8 (q.map bv))).toArray :: .int .u64 (uv (hdB q 0)) :: .pointer (some ⟨g5, 8, none⟩) :: .int .u8 (bv (q.getD 8 0)) :: .int .i64 (bv (q.getD 8 0)) :: .pointer (some ⟨g5, 9, none⟩) :: .int .u8 (bv (q.getD 9 0)) :: .int .i64 (bv (q.getD 9 0)) :: .int .i64 (256 * bv (q.getD 9 0)) :: .int .i64 (szR q : Int) :: .int .u64 (uv (hdB q 0)) :: .bool false :: .bool false :: .int .u64 (uv (hdB q 0)) :: .int .u64 (uv (hdB q 0) % 2) :: .int .i64 (uv (hdB q 0) % 2) :: .int .i64 (s : Int) :: .bool false :: .bool false :: .bool false :: .int .i64 (szR q : Int) :: .bool true :: .bool true :: U16vrf1 (U4vrf1 (undef :: undef :: undef :: [])))) _ (x_pick false (.bool true) (.bool true) (.bool true) rfl rfl rfl rfl rfl) rfl ?_
   clear hops35
   refine wpList_nil ?_
   refine hK20 _ _ ?_
   refine c_true rfl ?_
   refine wp_seq_k (fun K37 hK38 => ?_)
   refine c_region (fun ops40 hops39 => ?_)
   clear hops39
   refine p_run _ (x_assign (.slice none 0 0) rfl rfl) rfl ?_
   refine p_run _ (x_assign (.int .u64 0) rfl rfl) rfl ?_
   refine p_run _ (x_assign (.bool false) rfl rfl) rfl ?_
   refine wpList_nil ?_
   refine hK38 _ _ ?_
   refine wp_ret ?_
   try simp only [Exit.inBlock, Exit.then]
   refine c_ret (.tuple [.slice none 0 0, .int .u64 0, .bool false].toArray) (r_tmp3 rfl rfl rfl rfl) ?_
   replace HS := HS.nil kByte rfl 5
   rw [hok]
   exact ⟨_, [], 0, rfl, (HS.front 1 rfl).drop, fun h => by cases h⟩
  ·have hcl := ct_len hq h3
   refine c_region (fun ops42 hops41 => ?_)
   refine p_run _ (x_move (.int .u64 (uv (hdB q 0))) rfl rfl) rfl ?_
   refine p_run _ (x_cmp (k := .u64) (m := (uv (hdB q 0))) (n := 0) .eql false rfl rfl rfl (by simp [cmpB, uv_nz h1]) rfl) rfl ?_
   refine p_run _ (x_move (.bool false) rfl rfl) rfl ?_
   refine p_on rfl (by rw [hops41]; rfl) ?_
   refine p_run _ (x_move (.int .u64 (uv (hdB q 0))) rfl rfl) rfl ?_
   refine p_on rfl (by rw [hops41]; rfl) ?_
   refine p_run (l' := (.agg ((nums .u8 (q.map bv))).toArray :: .int .i64 (s : Int) :: .pointer (some ⟨g5, 0, none⟩) :: undef :: .slice none 0 0 :: .int .u64 0 :: .bool false :: .int .u64 (uv (hdB q 0)) :: .int .i64 (szR q : Int) :: undef :: undef :: .agg ((nums .u8 (q.map bv))).toArray :: .int .u64 (uv (hdB q 0)) :: .pointer (some ⟨g5, 8, none⟩) :: .int .u8 (bv (q.getD 8 0)) :: .int .i64 (bv (q.getD 8 0)) :: .pointer (some ⟨g5, 9, none⟩) :: .int .u8 (bv (q.getD 9 0)) :: .int .i64 (bv (q.getD 9 0)) :: .int .i64 (256 * bv (q.getD 9 0)) :: .int .i64 (szR q : Int) :: .int .u64 (uv (hdB q 0)) :: .bool false :: .bool false :: .int .u64 (uv (hdB q 0)) :: .int .u64 (uv (hdB q 0) % 2) :: U16vrf1 (U8vrf1 (U4vrf1 (undef :: undef :: undef :: []))))) _ (x_rem (k := .u64) (m := (uv (hdB q 0))) (n := 2) ((uv (hdB q 0) % 2)) rfl rfl rfl (by decide) (mod2 _)) rfl ?_
   refine p_on rfl (by rw [hops41]; rfl) ?_
   refine p_run _ (x_conv (k := .u64) (m := (uv (hdB q 0) % 2)) .i64 ((uv (hdB q 0) % 2)) rfl (by rw [Try.underlying25]; rfl) Try.underlying3 rfl (wr64' (by have := uv_lo (hdB q 0); omega))) rfl ?_
   refine p_on rfl (by rw [hops41]; rfl) ?_
   refine p_run _ (x_move (.int .i64 (s : Int)) rfl rfl) rfl ?_
   refine p_on rfl (by rw [hops41]; rfl) ?_
   refine p_run _ (x_cmp (k := .i64) (m := (uv (hdB q 0) % 2)) (n := (s : Int)) .neq false rfl rfl rfl (by rw [uv_mod, h2]; simp [cmpB]) rfl) rfl ?_
   refine p_run _ (x_pick false (.bool true) (.bool false) (.bool false) rfl rfl rfl rfl rfl) rfl ?_
   refine p_run _ (x_move (.bool false) rfl rfl) rfl ?_
   refine p_on rfl (by rw [hops41]; rfl) ?_
   refine p_run _ (x_move (.int .i64 (szR q : Int)) rfl rfl) rfl ?_
   refine p_on rfl (by rw [hops41]; rfl) ?_
   refine p_run _ (x_cmp (k := .i64) (m := (szR q : Int)) (n := 186) .gtr false rfl rfl rfl (show decide ((szR q : Int) > 186) = false from decide_eq_false (by omega)) rfl) rfl ?_
   refine p_run (l' := (.agg ((nums .u8 (q.map bv))).toArray :: .int .i64 (s : Int) :: .pointer (some ⟨g5, 0, none⟩) :: undef :: .slice none 0 0 :: .int .u64 0 :: .bool false :: .int .u64 (uv (hdB q 0)) :: .int .i64 (szR q : Int) :: undef :: undef :: .agg ((nums .u8 (q.map bv))).toArray :: .int .u64 (uv (hdB q 0)) :: .pointer (some ⟨g5, 8, none⟩) :: .int .u8 (bv (q.getD 8 0)) :: .int .i64 (bv (q.getD 8 0)) :: .pointer (some ⟨g5, 9, none⟩) :: .int .u8 (bv (q.getD 9 0)) :: .int .i64 (bv (q.getD 9 0)) :: .int .i64 (256 * bv (q.getD 9 0)) :: .int .i64 (szR q : Int) :: .int .u64 (uv (hdB q 0)) :: .bool false :: .bool false :: .int .u64 (uv (hdB q 0)) :: .int .u64 (uv (hdB q 0) % 2) :: .int .i64 (uv (hdB q 0) % 2) :: .int .i64 (s : Int) :: .bool false :: .bool false :: .bool false :: .int .i64 (szR q : Int) :: .bool false :: .bool false :: U16vrf1 (U4vrf1 (undef :: undef :: undef :: [])))) _ (x_pick false (.bool true) (.bool false) (.bool false) rfl rfl rfl rfl rfl) rfl ?_
   clear hops41
   refine wpList_nil ?_
   refine hK20 _ _ ?_
   refine c_false rfl ?_
   refine wp_skip ?_
   refine hK18 _ _ ?_
   refine wp_seq_k (fun K43 hK44 => ?_)
   refine c_region (fun ops46 hops45 => ?_)
   clear hops45
   refine St.wLit0 HS kByte rfl 1 (.int .u8 0) Try.underlying24 (by kernel_rfl) ?_
   clear HS
   intro v47 w48 HS
   refine p_run _ (x_assign (v47) rfl rfl) rfl ?_
   refine wpList_nil ?_
   refine hK44 _ _ ?_
   refine wp_seq_k (fun K49 hK50 => ?_)
   refine wp_seq_k (fun K51 hK52 => ?_)
   refine c_region (fun ops54 hops53 => ?_)
   clear hops53
   refine p_run _ (x_assign (.int .i64 10) rfl rfl) rfl ?_
   refine wpList_nil ?_
   obtain ⟨qz55, hqz55⟩ : ∃ q_ : V8, q_ = ⟨.pointer (some ⟨g5, 9, none⟩), .int .u8 (bv (q.getD 9 0)), .int .i64 (bv (q.getD 9 0)), .int .i64 (256 * bv (q.getD 9 0)), .int .i64 (szR q : Int), .int .u64 (uv (hdB q 0)), .bool false, .bool false⟩ := ⟨_, rfl⟩
   obtain ⟨qz56, hqz56⟩ : ∃ q_ : V8, q_ = ⟨.int .u64 (uv (hdB q 0)), .int .u64 (uv (hdB q 0) % 2), .int .i64 (uv (hdB q 0) % 2), .int .i64 (s : Int), .bool false, .bool false, .bool false, .int .i64 (szR q : Int)⟩ := ⟨_, rfl⟩
   refine fr_at (l' := (.agg ((nums .u8 (q.map bv))).toArray :: .int .i64 (s : Int) :: .pointer (some ⟨g5, 0, none⟩) :: undef :: .slice none 0 0 :: .int .u64 0 :: .bool false :: .int .u64 (uv (hdB q 0)) :: .int .i64 (szR q : Int) :: v47 :: .int .i64 10 :: .agg ((nums .u8 (q.map bv))).toArray :: .int .u64 (uv (hdB q 0)) :: .pointer (some ⟨g5, 8, none⟩) :: .int .u8 (bv (q.getD 8 0)) :: .int .i64 (bv (q.getD 8 0)) :: V8.l qz55 (V8.l qz56 (.bool false :: .bool false :: v47 :: U16vrf1 (U4vrf1 (undef :: undef :: [])))))) (by subst hqz55 hqz56; rfl) ?_
   refine hK52 _ _ ?_
   refine wp_block ?_
   refine c_loop (ι := Nat × Value) (fun i_ a_ w_ => match i_ with | (i, u9) => ∃ (u35 : Value) (u36 : Value) (u37 : Value) (u38 : Value) (u39 : Value) (u40 : Value) (u41 : Value) (u42 : Value) (u43 : Value) (u44 : Value) (u45 : Value) (u46 : Value) (u47 : Value) (u48 : Value) (u49 : Value), a_ = fr (.agg ((nums .u8 (q.map bv))).toArray :: .int .i64 (s : Int) :: .pointer (some ⟨g5, 0, none⟩) :: undef :: .slice none 0 0 :: .int .u64 0 :: .bool false :: .int .u64 (uv (hdB q 0)) :: .int .i64 (szR q : Int) :: u9 :: .int .i64 (i : Int) :: .agg ((nums .u8 (q.map bv))).toArray :: .int .u64 (uv (hdB q 0)) :: .pointer (some ⟨g5, 8, none⟩) :: .int .u8 (bv (q.getD 8 0)) :: .int .i64 (bv (q.getD 8 0)) :: V8.l qz55 (V8.l qz56 (.bool false :: .bool false :: v47 :: u35 :: u36 :: u37 :: u38 :: u39 :: u40 :: u41 :: u42 :: u43 :: u44 :: u45 :: u46 :: u47 :: u48 :: u49 :: U4vrf1 (undef :: undef :: undef :: [])))) ∧ St w0 F w_ (row kByte rfl 5 u9 (ctK q i) :: blk g5 ((nums .u8 (q.map bv))) 38 :: L) ∧ (10 ≤ i ∧ i ≤ 256 ∧ kS i - 2 ≤ szR q)) (fun i_ => match i_ with | (i, u9) => 256 - i) (10, v47) ?_ ?_
   ·exact ⟨_, _, _, _, _, _, _, _, _, _, _, _, _, _, _, rfl, ((HS.front 1 rfl).front 1 rfl), ⟨by omega, by omega, Nat.zero_le _⟩⟩
   ·clear HS
    rintro ⟨i, u9⟩ a_ w59 ⟨u35, u36, u37, u38, u39, u40, u41, u42, u43, u44, u45, u46, u47, u48, u49, rfl, HS, hI⟩ J57 hJ58
    obtain ⟨hi10, hi256, hks⟩ := hI
    have hkl := ctK_len hq hi256
    have hk192 := kS_le hi256
    obtain ⟨A60, c61, hv62, hcp63, -⟩ := row_reads (HS.get (.head _))
    rw [ctK_len hq hi256] at hv62 hcp63
    subst hv62
    refine wp_seq_k (fun K64 hK65 => ?_)
    refine wp_seq_k (fun K66 hK67 => ?_)
    refine c_region (fun ops69 hops68 => ?_)
    clear hops68
    refine p_run _ (x_move (.slice A60 (kS i - 2) c61) rfl rfl) rfl ?_
    refine p_run _ (x_len rfl rfl Try.underlying24) rfl ?_
    refine p_run _ (x_move (.int .i64 (szR q : Int)) rfl rfl) rfl ?_
    refine p_run _ (x_cmp (k := .i64) (m := (((kS i - 2) : Nat) : Int)) (n := (szR q : Int)) .lss (decide ((((kS i - 2) : Nat) : Int) < (szR q : Int))) rfl rfl rfl rfl rfl) rfl ?_
    refine wpList_nil ?_
    refine hK67 _ _ ?_
    refine c_cond (t := decide ((((kS i - 2) : Nat) : Int) < (szR q : Int))) rfl (fun hc70 => ?_) (fun hc70 => ?_)
    ·have hcm : kS i - 2 < szR q := by have := of_decide_eq_true hc70; omega
     have hi' : i < 256 := kS_lt (by omega)
     refine wp_skip ?_
     refine hK65 _ _ ?_
     refine wp_seq_k (fun K71 hK72 => ?_)
     refine wp_block ?_
     refine wp_seq_k (fun K73 hK74 => ?_)
     refine c_region (fun ops76 hops75 => ?_)
     clear hops75
     refine p_run _ (x_move (.int .i64 (i : Int)) rfl rfl) rfl ?_
     refine p_run _ (x_rem (k := .i64) (m := (i : Int)) (n := 32) (((i % 32 : Nat) : Int)) rfl rfl rfl (by decide) (tm32 i)) rfl ?_
     refine p_run _ (x_cmp (k := .i64) (m := ((i % 32 : Nat) : Int)) (n := 8) .geq (decide (((i % 32 : Nat) : Int) ≥ 8)) rfl rfl rfl rfl rfl) rfl ?_
     refine wpList_nil ?_
     refine fr_at (l' := (.agg ((nums .u8 (q.map bv))).toArray :: .int .i64 (s : Int) :: .pointer (some ⟨g5, 0, none⟩) :: undef :: .slice none 0 0 :: .int .u64 0 :: .bool false :: .int .u64 (uv (hdB q 0)) :: .int .i64 (szR q : Int) :: .slice A60 (kS i - 2) c61 :: .int .i64 (i : Int) :: .agg ((nums .u8 (q.map bv))).toArray :: .int .u64 (uv (hdB q 0)) :: .pointer (some ⟨g5, 8, none⟩) :: .int .u8 (bv (q.getD 8 0)) :: .int .i64 (bv (q.getD 8 0)) :: V8.l qz55 (V8.l qz56 (.bool false :: .bool false :: v47 :: .slice A60 (kS i - 2) c61 :: .int .i64 (((kS i - 2) : Nat) : Int) :: .int .i64 (szR q : Int) :: .bool (decide ((((kS i - 2) : Nat) : Int) < (szR q : Int))) :: u39 :: u40 :: .int .i64 (i : Int) :: .int .i64 ((i % 32 : Nat) : Int) :: .bool (decide (((i % 32 : Nat) : Int) ≥ 8)) :: u44 :: u45 :: u46 :: u47 :: u48 :: u49 :: U4vrf1 (undef :: undef :: undef :: []))))) rfl ?_
     refine hK74 _ _ ?_
     refine c_cond (t := decide (((i % 32 : Nat) : Int) ≥ 8)) rfl (fun hc77 => ?_) (fun hc77 => ?_)
     ·have h8 : ¬ i % 32 < 8 := by have := of_decide_eq_true hc77; omega
      refine c_region (fun ops79 hops78 => ?_)
      clear hops78
      refine p_run _ (x_move (.slice A60 (kS i - 2) c61) rfl rfl) rfl ?_
      refine p_run _ (x_move (.int .i64 (i : Int)) rfl rfl) rfl ?_
      refine p_run _ (x_indexArr (sz := 1) (j := i) rfl rfl rfl Try.underlying38 (by kernel_rfl) (by omega) (by first | rfl | (simp; done) | (simp <;> omega) | omega)) rfl ?_
      refine p_run _ (x_load (.int .u8 (bv (q.getD i 0))) rfl rfl (bkCell (HS.get (.tail _ (.head _))) i _ (nb_at (by omega))) (by rfl)) rfl ?_
      refine St.wLit1 HS [.int .u8 (bv (q.getD i 0))] 1 (.int .u8 0) (.int .u8 (bv (q.getD i 0))) Try.underlying24 (by kernel_rfl) (by decide) rfl rfl rfl ?_
      clear HS
      intro g80 w81 hg82 HS
      replace HS := (HS.front 1 rfl)
      refine St.wAppend HS (.int .u8 0) 1 Try.underlying24 (by kernel_rfl) rfl (by decide) (by decide) [q.getD i 0] _ _ _ rfl rfl (rd_blkn (xs := [q.getD i 0]) (HS.get (.tail _ (.head _))) rfl (by decide)) (fun _ _ h => h) (by simp; omega) ?_
      clear HS
      intro v83 w84 HS
      refine p_run _ (x_assign (v83) rfl rfl) rfl ?_
      refine wpList_nil ?_
      refine fr_at (l' := (.agg ((nums .u8 (q.map bv))).toArray :: .int .i64 (s : Int) :: .pointer (some ⟨g5, 0, none⟩) :: undef :: .slice none 0 0 :: .int .u64 0 :: .bool false :: .int .u64 (uv (hdB q 0)) :: .int .i64 (szR q : Int) :: v83 :: .int .i64 (i : Int) :: .agg ((nums .u8 (q.map bv))).toArray :: .int .u64 (uv (hdB q 0)) :: .pointer (some ⟨g5, 8, none⟩) :: .int .u8 (bv (q.getD 8 0)) :: .int .i64 (bv (q.getD 8 0)) :: V8.l qz55 (V8.l qz56 (.bool false :: .bool false :: v47 :: .slice A60 (kS i - 2) c61 :: .int .i64 (((kS i - 2) : Nat) : Int) :: .int .i64 (szR q : Int) :: .bool (decide ((((kS i - 2) : Nat) : Int) < (szR q : Int))) :: u39 :: u40 :: .int .i64 (i : Int) :: .int .i64 ((i % 32 : Nat) : Int) :: .bool (decide (((i % 32 : Nat) : Int) ≥ 8)) :: .slice A60 (kS i - 2) c61 :: .int .i64 (i : Int) :: .pointer (some ⟨g5, i, none⟩) :: .int .u8 (bv (q.getD i 0)) :: .slice (some ⟨g80, 0, none⟩) 1 1 :: v83 :: U4vrf1 (undef :: undef :: undef :: []))))) rfl ?_
      refine hK72 _ _ ?_
      refine c_region (fun ops86 hops85 => ?_)
      clear hops85
      refine p_run _ (x_move (.int .i64 (i : Int)) rfl rfl) rfl ?_
      refine p_run _ (x_arith (k := .i64) (m := (i : Int)) (n := 1) .add (((i + 1 : Nat) : Int)) rfl rfl rfl (show IntKind.i64.wrap ((i : Int) + 1) = ((i + 1 : Nat) : Int) from ((wr64' (by omega)).trans (by omega))) rfl) rfl ?_
      refine p_run _ (x_assign (.int .i64 ((i + 1 : Nat) : Int)) rfl rfl) rfl ?_
      refine wpList_nil ?_
      refine fr_at (l' := (.agg ((nums .u8 (q.map bv))).toArray :: .int .i64 (s : Int) :: .pointer (some ⟨g5, 0, none⟩) :: undef :: .slice none 0 0 :: .int .u64 0 :: .bool false :: .int .u64 (uv (hdB q 0)) :: .int .i64 (szR q : Int) :: v83 :: .int .i64 ((i + 1 : Nat) : Int) :: .agg ((nums .u8 (q.map bv))).toArray :: .int .u64 (uv (hdB q 0)) :: .pointer (some ⟨g5, 8, none⟩) :: .int .u8 (bv (q.getD 8 0)) :: .int .i64 (bv (q.getD 8 0)) :: V8.l qz55 (V8.l qz56 (.bool false :: .bool false :: v47 :: .slice A60 (kS i - 2) c61 :: .int .i64 (((kS i - 2) : Nat) : Int) :: .int .i64 (szR q : Int) :: .bool (decide ((((kS i - 2) : Nat) : Int) < (szR q : Int))) :: .int .i64 (i : Int) :: .int .i64 ((i + 1 : Nat) : Int) :: .int .i64 (i : Int) :: .int .i64 ((i % 32 : Nat) : Int) :: .bool (decide (((i % 32 : Nat) : Int) ≥ 8)) :: .slice A60 (kS i - 2) c61 :: .int .i64 (i : Int) :: .pointer (some ⟨g5, i, none⟩) :: .int .u8 (bv (q.getD i 0)) :: .slice (some ⟨g80, 0, none⟩) 1 1 :: v83 :: U4vrf1 (undef :: undef :: undef :: []))))) rfl ?_
      rw [ctK_snoc hq hi10 hi' h8] at HS
      refine hJ58 (i + 1, v83) _ _ ?_ ?_
      ·show 256 - (i + 1) < 256 - i; omega
      ·exact ⟨_, _, _, _, _, _, _, _, _, _, _, _, _, _, _, rfl, (((HS.front 1 rfl).drop.front 1 rfl).front 1 rfl), ⟨(by omega), (by omega), (by rw [kS_hi h8]; omega)⟩⟩
     ·have h8 : i % 32 < 8 := by have := of_decide_eq_false hc77; omega
      refine wp_skip ?_
      refine hK72 _ _ ?_
      refine c_region (fun ops88 hops87 => ?_)
      clear hops87
      refine p_run _ (x_move (.int .i64 (i : Int)) rfl rfl) rfl ?_
      refine p_run _ (x_arith (k := .i64) (m := (i : Int)) (n := 1) .add (((i + 1 : Nat) : Int)) rfl rfl rfl (show IntKind.i64.wrap ((i : Int) + 1) = ((i + 1 : Nat) : Int) from ((wr64' (by omega)).trans (by omega))) rfl) rfl ?_
      refine p_run _ (x_assign (.int .i64 ((i + 1 : Nat) : Int)) rfl rfl) rfl ?_
      refine wpList_nil ?_
      refine fr_at (l' := (.agg ((nums .u8 (q.map bv))).toArray :: .int .i64 (s : Int) :: .pointer (some ⟨g5, 0, none⟩) :: undef :: .slice none 0 0 :: .int .u64 0 :: .bool false :: .int .u64 (uv (hdB q 0)) :: .int .i64 (szR q : Int) :: .slice A60 (kS i - 2) c61 :: .int .i64 ((i + 1 : Nat) : Int) :: .agg ((nums .u8 (q.map bv))).toArray :: .int .u64 (uv (hdB q 0)) :: .pointer (some ⟨g5, 8, none⟩) :: .int .u8 (bv (q.getD 8 0)) :: .int .i64 (bv (q.getD 8 0)) :: V8.l qz55 (V8.l qz56 (.bool false :: .bool false :: v47 :: .slice A60 (kS i - 2) c61 :: .int .i64 (((kS i - 2) : Nat) : Int) :: .int .i64 (szR q : Int) :: .bool (decide ((((kS i - 2) : Nat) : Int) < (szR q : Int))) :: .int .i64 (i : Int) :: .int .i64 ((i + 1 : Nat) : Int) :: .int .i64 (i : Int) :: .int .i64 ((i % 32 : Nat) : Int) :: .bool (decide (((i % 32 : Nat) : Int) ≥ 8)) :: u44 :: u45 :: u46 :: u47 :: u48 :: u49 :: U4vrf1 (undef :: undef :: undef :: []))))) rfl ?_
      rw [ctK_same h8] at HS
      refine hJ58 (i + 1, .slice A60 (kS i - 2) c61) _ _ ?_ ?_
      ·show 256 - (i + 1) < 256 - i; omega
      ·exact ⟨_, _, _, _, _, _, _, _, _, _, _, _, _, _, _, rfl, ((HS.front 1 rfl).front 1 rfl), ⟨(by omega), (by omega), (by rw [kS_lo h8]; omega)⟩⟩
    ·have hcm : kS i - 2 = szR q := by have := of_decide_eq_false hc70; omega
     rw [ctK_end hcm] at HS
     have hcn : kS i - 2 = (ctR q).length := hcm.trans hcl.symm
     rw [hcn] at HS ⊢
     refine wp_exit ?_
     refine hK50 _ _ ?_
     refine wp_seq_k (fun K89 hK90 => ?_)
     rcases h45 with ⟨hok, h4⟩ | ⟨hok, h4⟩
     ·refine free_frame (n := 10) (T := _) [0, 0, 0, 0, 12, 0, 60, 29, 159, 511] [(0, 50), (1, 51), (2, 52), (3, 53), (4, 54), (5, 55), (6, 56), (7, 4), (8, 5), (9, 6)] (fun bq_ vq_ w_ => qv ((fun i_ => match i_ with | 0 => some (.slice A60 ((ctR q).length) c61) | 1 => some (.int .u64 (uv (hdB q 0))) | 2 => some (.int .u64 (uv (hdB q 0))) | 3 => some (.slice A60 ((ctR q).length) c61) | 5 => some (.agg ((nums .u8 (q.map bv))).toArray) | 6 => some (.bool false) | 7 => some (.slice A60 ((ctR q).length) c61) | 8 => some (.int .u64 (uv (hdB q 0))) | 9 => some (.bool false) | _ => none) : Nat → Option Value) bq_ vq_ ∧ cond (bq_ 4) (vq_ 4 = .agg ((nums .u8 ((pgB (hdB q 0) (rtS (ctR q))).map bv))).toArray ∧ St w0 F w_ (row kByte rfl 5 (.slice A60 ((ctR q).length) c61) (ctR q) :: blk g5 ((nums .u8 (q.map bv))) 38 :: L)) ((St w0 F w_ (row kByte rfl 5 (.slice A60 ((ctR q).length) c61) (ctR q) :: blk g5 ((nums .u8 (q.map bv))) 38 :: L)))) (by kernel_rfl) rfl rfl (by kernel_rfl) (by kernel_rfl) rfl (by kernel_rfl) (by kernel_rfl) ⟨qv_none, HS.draw⟩ ?_ ?_
      ·clear HS
       intro i_ hi_ bq_ vq_ a_ w_ hG hb_ hon hoff hfr hel hval
       obtain ⟨hV, hE⟩ := hG
       have hi_ := List.mem_range.1 hi_
       obtain ⟨l_, rfl⟩ := hfr
       have hv_ := fun (j t : Nat) (v : Value) (h1 : (j, t) ∈ [(0, 50), (1, 51), (2, 52), (3, 53), (4, 54), (5, 55), (6, 56), (7, 4), (8, 5), (9, 6)]) h2 h3 => (hval (j, t) h1 h3).trans (congrArg some (hV j v h2 h3))
       have hcs : i_ = 0 ∨ i_ = 1 ∨ i_ = 2 ∨ i_ = 3 ∨ i_ = 4 ∨ i_ = 5 ∨ i_ = 6 ∨ i_ = 7 ∨ i_ = 8 ∨ i_ = 9 := by omega
       rcases hcs with rfl | rfl | rfl | rfl | rfl | rfl | rfl | rfl | rfl | rfl
       ·have e9 : evl l_ (.tmp 9) = .slice A60 ((ctR q).length) c61 := evl_of ((hel 9 (by decide)).trans rfl)
        exact ⟨_, rfl, fun K_ hK_ => q_op _ (x_move (.slice A60 ((ctR q).length) c61) rfl e9) (hK_ _ _ ⟨qv_up hV (fun _ h => Option.some.inj h), hE⟩)⟩
       ·have e7 : evl l_ (.tmp 7) = .int .u64 (uv (hdB q 0)) := evl_of ((hel 7 (by decide)).trans rfl)
        exact ⟨_, rfl, fun K_ hK_ => q_op _ (x_move (.int .u64 (uv (hdB q 0))) rfl e7) (hK_ _ _ ⟨qv_up hV (fun _ h => Option.some.inj h), hE⟩)⟩
       ·have e7 : evl l_ (.tmp 7) = .int .u64 (uv (hdB q 0)) := evl_of ((hel 7 (by decide)).trans rfl)
        exact ⟨_, rfl, fun K_ hK_ => q_op _ (x_move (.int .u64 (uv (hdB q 0))) rfl e7) (hK_ _ _ ⟨qv_up hV (fun _ h => Option.some.inj h), hE⟩)⟩
       ·have e9 : evl l_ (.tmp 9) = .slice A60 ((ctR q).length) c61 := evl_of ((hel 9 (by decide)).trans rfl)
        exact ⟨_, rfl, fun K_ hK_ => q_op _ (x_move (.slice A60 ((ctR q).length) c61) rfl e9) (hK_ _ _ ⟨qv_up hV (fun _ h => Option.some.inj h), hE⟩)⟩
       ·have h52 : (fr l_).tmps[52]? = some (.int .u64 (uv (hdB q 0))) := hv_ 2 52 _ (by decide) rfl (hon 2 (by decide))
        have h53 : (fr l_).tmps[53]? = some (.slice A60 ((ctR q).length) c61) := hv_ 3 53 _ (by decide) rfl (hon 3 (by decide))
        have hE0 := hE
        rw [show bq_ 4 = false from hb_] at hE0
        simp only [cond_true, cond_false] at hE0
        have HS := hE0
        have e52 : evl l_ (.tmp 52) = .int .u64 (uv (hdB q 0)) := evl_of h52
        have e53 : evl l_ (.tmp 53) = .slice A60 ((ctR q).length) c61 := evl_of h53
        refine ⟨_, rfl, fun K_ hK_ => wp_of_list rfl ?_⟩
        intro ops_
        refine w_call [.int .u64 (uv (hdB q 0)), .slice A60 ((ctR q).length) c61] Try.func20 (by kernel_rfl) (by rfl) (by simp only [List.map_cons, List.map_nil, e52, e53] <;> rfl) ?_
        refine (rtpage_any HS (hdB q 0) (ctR q) (fun w X hX => ⟨(row_rd (hX.hs.right.1 _ (.head _))).2.2, (row_rd (hX.hs.right.1 _ (.head _))).2.1⟩) (by omega)).mono ?_
        clear HS
        rintro e w900401 ⟨rfl, HS⟩
        refine ⟨_, rfl, ?_⟩
        refine wpList_nil ?_
        refine norm_put (hK_ (.agg ((nums .u8 ((pgB (hdB q 0) (rtS (ctR q))).map bv))).toArray) _ ⟨qv_up hV (by intro _ h; cases h), ?_⟩)
        show cond true _ _
        rw [cond_true]
        exact ⟨rfl, ((HS.front 1 rfl).front 1 rfl)⟩
       ·rcases hq4 : bq_ 4 with _ | _
        ·have hE0 := hE
         rw [show bq_ 4 = false from hq4] at hE0
         simp only [cond_true, cond_false] at hE0
         have HS := hE0
         have e2 : evl l_ (.tmp 2) = .pointer (some ⟨g5, 0, none⟩) := evl_of ((hel 2 (by decide)).trans rfl)
         exact ⟨_, rfl, fun K_ hK_ => q_op _ (x_loads ((nums .u8 (q.map bv))) 256 rfl e2 (bkCells (HS.get (.tail _ (.head _))) 0 _ (whole _)) (by rfl) (by kernel_rfl) (by simp [List.length_map, hq, nums_length])) (hK_ _ _ ⟨qv_up hV (fun _ h => Option.some.inj h), hE⟩)⟩
        ·have hE0 := hE
         rw [show bq_ 4 = true from hq4] at hE0
         simp only [cond_true, cond_false] at hE0
         obtain ⟨hv4, HS⟩ := hE0
         have e2 : evl l_ (.tmp 2) = .pointer (some ⟨g5, 0, none⟩) := evl_of ((hel 2 (by decide)).trans rfl)
         exact ⟨_, rfl, fun K_ hK_ => q_op _ (x_loads ((nums .u8 (q.map bv))) 256 rfl e2 (bkCells (HS.get (.tail _ (.head _))) 0 _ (whole _)) (by rfl) (by kernel_rfl) (by simp [List.length_map, hq, nums_length])) (hK_ _ _ ⟨qv_up hV (fun _ h => Option.some.inj h), hE⟩)⟩
       ·have h54 := hval (4, 54) (by decide) (hon 4 (by decide))
        have hE0 := hE
        rw [show bq_ 4 = true from (hon 4 (by decide))] at hE0
        simp only [cond_true, cond_false] at hE0
        obtain ⟨hv4, HS⟩ := hE0
        rw [hv4] at h54
        have e54 : evl l_ (.tmp 54) = .agg ((nums .u8 ((pgB (hdB q 0) (rtS (ctR q))).map bv))).toArray := evl_of h54
        have e55 : evl l_ (.tmp 55) = .agg ((nums .u8 (q.map bv))).toArray := evl_of (hv_ 5 55 _ (by decide) rfl (hon 5 (by decide)))
        exact ⟨_, rfl, fun K_ hK_ => q_op _ (x_eq .eql (.agg ((nums .u8 ((pgB (hdB q 0) (rtS (ctR q))).map bv))).toArray) (.agg ((nums .u8 (q.map bv))).toArray) (decide (((pgB (hdB q 0) (rtS (ctR q))).map bv) = (q.map bv))) false rfl e54 e55 (equal_nums Try.underlying38 Try.underlying5 (by kernel_rfl) (by kernel_rfl) _ _ (by simp [List.length_map, pgB_len (hdB q 0) (rtS (ctR q))]) (by simp [List.length_map, hq])) (decide_eq_false (fun e => h4 (map_bv_inj.1 e).symm)) rfl (guard_agg (by kernel_rfl)) (guard_agg (by kernel_rfl))) (hK_ _ _ ⟨qv_up hV (fun _ h => Option.some.inj h), hE⟩)⟩
       ·have e50 : evl l_ (.tmp 50) = .slice A60 ((ctR q).length) c61 := evl_of (hv_ 0 50 _ (by decide) rfl (hon 0 (by decide)))
        exact ⟨_, rfl, fun K_ hK_ => q_op _ (x_assign (.slice A60 ((ctR q).length) c61) rfl e50) (hK_ _ _ ⟨qv_up hV (fun _ h => Option.some.inj h), hE⟩)⟩
       ·have e51 : evl l_ (.tmp 51) = .int .u64 (uv (hdB q 0)) := evl_of (hv_ 1 51 _ (by decide) rfl (hon 1 (by decide)))
        exact ⟨_, rfl, fun K_ hK_ => q_op _ (x_assign (.int .u64 (uv (hdB q 0))) rfl e51) (hK_ _ _ ⟨qv_up hV (fun _ h => Option.some.inj h), hE⟩)⟩
       ·have e56 : evl l_ (.tmp 56) = .bool false := evl_of (hv_ 6 56 _ (by decide) rfl (hon 6 (by decide)))
        exact ⟨_, rfl, fun K_ hK_ => q_op _ (x_assign (.bool false) rfl e56) (hK_ _ _ ⟨qv_up hV (fun _ h => Option.some.inj h), hE⟩)⟩
      intro bq_ vq_ w_ hall hG
      obtain ⟨hV, hE⟩ := hG
      clear HS
      rw [show bq_ 4 = true from hall 4 (by decide)] at hE
      simp only [cond_true] at hE
      obtain ⟨hv4, HS⟩ := hE
      have hv0 := hV 0 _ rfl (hall 0 (by decide))
      have hv1 := hV 1 _ rfl (hall 1 (by decide))
      have hv2 := hV 2 _ rfl (hall 2 (by decide))
      have hv3 := hV 3 _ rfl (hall 3 (by decide))
      have hv5 := hV 5 _ rfl (hall 5 (by decide))
      have hv6 := hV 6 _ rfl (hall 6 (by decide))
      have hv7 := hV 7 _ rfl (hall 7 (by decide))
      have hv8 := hV 8 _ rfl (hall 8 (by decide))
      have hv9 := hV 9 _ rfl (hall 9 (by decide))
      clear hV hall
      rw [putSel_fr]
      simp only [tells, List.map_cons, List.map_nil, setAll, List.set_cons_succ, List.set_cons_zero, hv0, hv1, hv2, hv3, hv4, hv5, hv6, hv7, hv8, hv9]
      clear hv0 hv1 hv2 hv3 hv4 hv5 hv6 hv7 hv8 hv9
      generalize w_ = w900601 at HS ⊢
      refine fr_at (l' := (.agg ((nums .u8 (q.map bv))).toArray :: .int .i64 (s : Int) :: .pointer (some ⟨g5, 0, none⟩) :: undef :: .slice A60 ((ctR q).length) c61 :: .int .u64 (uv (hdB q 0)) :: .bool false :: .int .u64 (uv (hdB q 0)) :: .int .i64 (szR q : Int) :: .slice A60 ((ctR q).length) c61 :: .int .i64 (i : Int) :: .agg ((nums .u8 (q.map bv))).toArray :: .int .u64 (uv (hdB q 0)) :: .pointer (some ⟨g5, 8, none⟩) :: .int .u8 (bv (q.getD 8 0)) :: .int .i64 (bv (q.getD 8 0)) :: V8.l qz55 (V8.l qz56 (.bool false :: .bool false :: v47 :: .slice A60 ((ctR q).length) c61 :: .int .i64 (((ctR q).length : Nat) : Int) :: .int .i64 (szR q : Int) :: .bool (decide ((((ctR q).length : Nat) : Int) < (szR q : Int))) :: u39 :: u40 :: u41 :: u42 :: u43 :: u44 :: u45 :: u46 :: u47 :: u48 :: u49 :: .slice A60 ((ctR q).length) c61 :: .int .u64 (uv (hdB q 0)) :: .int .u64 (uv (hdB q 0)) :: .slice A60 ((ctR q).length) c61 :: .agg ((nums .u8 ((pgB (hdB q 0) (rtS (ctR q))).map bv))).toArray :: .agg ((nums .u8 (q.map bv))).toArray :: .bool false :: [])))) rfl ?_
      refine hK90 _ _ ?_
      refine wp_ret ?_
      try simp only [Exit.inBlock, Exit.then]
      refine c_ret (.tuple [.slice A60 ((ctR q).length) c61, .int .u64 (uv (hdB q 0)), .bool false].toArray) (r_tmp3 rfl rfl rfl rfl) ?_
      rw [hok]
      exact ⟨_, ctR q, hdB q 0, rfl, (HS.front 1 rfl).drop, fun h => by cases h⟩
     ·refine free_frame (n := 10) (T := _) [0, 0, 0, 0, 12, 0, 60, 29, 159, 511] [(0, 50), (1, 51), (2, 52), (3, 53), (4, 54), (5, 55), (6, 56), (7, 4), (8, 5), (9, 6)] (fun bq_ vq_ w_ => qv ((fun i_ => match i_ with | 0 => some (.slice A60 ((ctR q).length) c61) | 1 => some (.int .u64 (uv (hdB q 0))) | 2 => some (.int .u64 (uv (hdB q 0))) | 3 => some (.slice A60 ((ctR q).length) c61) | 5 => some (.agg ((nums .u8 (q.map bv))).toArray) | 6 => some (.bool true) | 7 => some (.slice A60 ((ctR q).length) c61) | 8 => some (.int .u64 (uv (hdB q 0))) | 9 => some (.bool true) | _ => none) : Nat → Option Value) bq_ vq_ ∧ cond (bq_ 4) (vq_ 4 = .agg ((nums .u8 ((pgB (hdB q 0) (rtS (ctR q))).map bv))).toArray ∧ St w0 F w_ (row kByte rfl 5 (.slice A60 ((ctR q).length) c61) (ctR q) :: blk g5 ((nums .u8 (q.map bv))) 38 :: L)) ((St w0 F w_ (row kByte rfl 5 (.slice A60 ((ctR q).length) c61) (ctR q) :: blk g5 ((nums .u8 (q.map bv))) 38 :: L)))) (by kernel_rfl) rfl rfl (by kernel_rfl) (by kernel_rfl) rfl (by kernel_rfl) (by kernel_rfl) ⟨qv_none, HS.draw⟩ ?_ ?_
      ·clear HS
       intro i_ hi_ bq_ vq_ a_ w_ hG hb_ hon hoff hfr hel hval
       obtain ⟨hV, hE⟩ := hG
       have hi_ := List.mem_range.1 hi_
       obtain ⟨l_, rfl⟩ := hfr
       have hv_ := fun (j t : Nat) (v : Value) (h1 : (j, t) ∈ [(0, 50), (1, 51), (2, 52), (3, 53), (4, 54), (5, 55), (6, 56), (7, 4), (8, 5), (9, 6)]) h2 h3 => (hval (j, t) h1 h3).trans (congrArg some (hV j v h2 h3))
       have hcs : i_ = 0 ∨ i_ = 1 ∨ i_ = 2 ∨ i_ = 3 ∨ i_ = 4 ∨ i_ = 5 ∨ i_ = 6 ∨ i_ = 7 ∨ i_ = 8 ∨ i_ = 9 := by omega
       rcases hcs with rfl | rfl | rfl | rfl | rfl | rfl | rfl | rfl | rfl | rfl
       ·have e9 : evl l_ (.tmp 9) = .slice A60 ((ctR q).length) c61 := evl_of ((hel 9 (by decide)).trans rfl)
        exact ⟨_, rfl, fun K_ hK_ => q_op _ (x_move (.slice A60 ((ctR q).length) c61) rfl e9) (hK_ _ _ ⟨qv_up hV (fun _ h => Option.some.inj h), hE⟩)⟩
       ·have e7 : evl l_ (.tmp 7) = .int .u64 (uv (hdB q 0)) := evl_of ((hel 7 (by decide)).trans rfl)
        exact ⟨_, rfl, fun K_ hK_ => q_op _ (x_move (.int .u64 (uv (hdB q 0))) rfl e7) (hK_ _ _ ⟨qv_up hV (fun _ h => Option.some.inj h), hE⟩)⟩
       ·have e7 : evl l_ (.tmp 7) = .int .u64 (uv (hdB q 0)) := evl_of ((hel 7 (by decide)).trans rfl)
        exact ⟨_, rfl, fun K_ hK_ => q_op _ (x_move (.int .u64 (uv (hdB q 0))) rfl e7) (hK_ _ _ ⟨qv_up hV (fun _ h => Option.some.inj h), hE⟩)⟩
       ·have e9 : evl l_ (.tmp 9) = .slice A60 ((ctR q).length) c61 := evl_of ((hel 9 (by decide)).trans rfl)
        exact ⟨_, rfl, fun K_ hK_ => q_op _ (x_move (.slice A60 ((ctR q).length) c61) rfl e9) (hK_ _ _ ⟨qv_up hV (fun _ h => Option.some.inj h), hE⟩)⟩
       ·have h52 : (fr l_).tmps[52]? = some (.int .u64 (uv (hdB q 0))) := hv_ 2 52 _ (by decide) rfl (hon 2 (by decide))
        have h53 : (fr l_).tmps[53]? = some (.slice A60 ((ctR q).length) c61) := hv_ 3 53 _ (by decide) rfl (hon 3 (by decide))
        have hE0 := hE
        rw [show bq_ 4 = false from hb_] at hE0
        simp only [cond_true, cond_false] at hE0
        have HS := hE0
        have e52 : evl l_ (.tmp 52) = .int .u64 (uv (hdB q 0)) := evl_of h52
        have e53 : evl l_ (.tmp 53) = .slice A60 ((ctR q).length) c61 := evl_of h53
        refine ⟨_, rfl, fun K_ hK_ => wp_of_list rfl ?_⟩
        intro ops_
        refine w_call [.int .u64 (uv (hdB q 0)), .slice A60 ((ctR q).length) c61] Try.func20 (by kernel_rfl) (by rfl) (by simp only [List.map_cons, List.map_nil, e52, e53] <;> rfl) ?_
        refine (rtpage_any HS (hdB q 0) (ctR q) (fun w X hX => ⟨(row_rd (hX.hs.right.1 _ (.head _))).2.2, (row_rd (hX.hs.right.1 _ (.head _))).2.1⟩) (by omega)).mono ?_
        clear HS
        rintro e w900401 ⟨rfl, HS⟩
        refine ⟨_, rfl, ?_⟩
        refine wpList_nil ?_
        refine norm_put (hK_ (.agg ((nums .u8 ((pgB (hdB q 0) (rtS (ctR q))).map bv))).toArray) _ ⟨qv_up hV (by intro _ h; cases h), ?_⟩)
        show cond true _ _
        rw [cond_true]
        exact ⟨rfl, ((HS.front 1 rfl).front 1 rfl)⟩
       ·rcases hq4 : bq_ 4 with _ | _
        ·have hE0 := hE
         rw [show bq_ 4 = false from hq4] at hE0
         simp only [cond_true, cond_false] at hE0
         have HS := hE0
         have e2 : evl l_ (.tmp 2) = .pointer (some ⟨g5, 0, none⟩) := evl_of ((hel 2 (by decide)).trans rfl)
         exact ⟨_, rfl, fun K_ hK_ => q_op _ (x_loads ((nums .u8 (q.map bv))) 256 rfl e2 (bkCells (HS.get (.tail _ (.head _))) 0 _ (whole _)) (by rfl) (by kernel_rfl) (by simp [List.length_map, hq, nums_length])) (hK_ _ _ ⟨qv_up hV (fun _ h => Option.some.inj h), hE⟩)⟩
        ·have hE0 := hE
         rw [show bq_ 4 = true from hq4] at hE0
         simp only [cond_true, cond_false] at hE0
         obtain ⟨hv4, HS⟩ := hE0
         have e2 : evl l_ (.tmp 2) = .pointer (some ⟨g5, 0, none⟩) := evl_of ((hel 2 (by decide)).trans rfl)
         exact ⟨_, rfl, fun K_ hK_ => q_op _ (x_loads ((nums .u8 (q.map bv))) 256 rfl e2 (bkCells (HS.get (.tail _ (.head _))) 0 _ (whole _)) (by rfl) (by kernel_rfl) (by simp [List.length_map, hq, nums_length])) (hK_ _ _ ⟨qv_up hV (fun _ h => Option.some.inj h), hE⟩)⟩
       ·have h54 := hval (4, 54) (by decide) (hon 4 (by decide))
        have hE0 := hE
        rw [show bq_ 4 = true from (hon 4 (by decide))] at hE0
        simp only [cond_true, cond_false] at hE0
        obtain ⟨hv4, HS⟩ := hE0
        rw [hv4] at h54
        have e54 : evl l_ (.tmp 54) = .agg ((nums .u8 ((pgB (hdB q 0) (rtS (ctR q))).map bv))).toArray := evl_of h54
        have e55 : evl l_ (.tmp 55) = .agg ((nums .u8 (q.map bv))).toArray := evl_of (hv_ 5 55 _ (by decide) rfl (hon 5 (by decide)))
        exact ⟨_, rfl, fun K_ hK_ => q_op _ (x_eq .eql (.agg ((nums .u8 ((pgB (hdB q 0) (rtS (ctR q))).map bv))).toArray) (.agg ((nums .u8 (q.map bv))).toArray) (decide (((pgB (hdB q 0) (rtS (ctR q))).map bv) = (q.map bv))) true rfl e54 e55 (equal_nums Try.underlying38 Try.underlying5 (by kernel_rfl) (by kernel_rfl) _ _ (by simp [List.length_map, pgB_len (hdB q 0) (rtS (ctR q))]) (by simp [List.length_map, hq])) (by rw [← h4]; exact decide_eq_true rfl) rfl (guard_agg (by kernel_rfl)) (guard_agg (by kernel_rfl))) (hK_ _ _ ⟨qv_up hV (fun _ h => Option.some.inj h), hE⟩)⟩
       ·have e50 : evl l_ (.tmp 50) = .slice A60 ((ctR q).length) c61 := evl_of (hv_ 0 50 _ (by decide) rfl (hon 0 (by decide)))
        exact ⟨_, rfl, fun K_ hK_ => q_op _ (x_assign (.slice A60 ((ctR q).length) c61) rfl e50) (hK_ _ _ ⟨qv_up hV (fun _ h => Option.some.inj h), hE⟩)⟩
       ·have e51 : evl l_ (.tmp 51) = .int .u64 (uv (hdB q 0)) := evl_of (hv_ 1 51 _ (by decide) rfl (hon 1 (by decide)))
        exact ⟨_, rfl, fun K_ hK_ => q_op _ (x_assign (.int .u64 (uv (hdB q 0))) rfl e51) (hK_ _ _ ⟨qv_up hV (fun _ h => Option.some.inj h), hE⟩)⟩
       ·have e56 : evl l_ (.tmp 56) = .bool true := evl_of (hv_ 6 56 _ (by decide) rfl (hon 6 (by decide)))
        exact ⟨_, rfl, fun K_ hK_ => q_op _ (x_assign (.bool true) rfl e56) (hK_ _ _ ⟨qv_up hV (fun _ h => Option.some.inj h), hE⟩)⟩
      intro bq_ vq_ w_ hall hG
      obtain ⟨hV, hE⟩ := hG
      clear HS
      rw [show bq_ 4 = true from hall 4 (by decide)] at hE
      simp only [cond_true] at hE
      obtain ⟨hv4, HS⟩ := hE
      have hv0 := hV 0 _ rfl (hall 0 (by decide))
      have hv1 := hV 1 _ rfl (hall 1 (by decide))
      have hv2 := hV 2 _ rfl (hall 2 (by decide))
      have hv3 := hV 3 _ rfl (hall 3 (by decide))
      have hv5 := hV 5 _ rfl (hall 5 (by decide))
      have hv6 := hV 6 _ rfl (hall 6 (by decide))
      have hv7 := hV 7 _ rfl (hall 7 (by decide))
      have hv8 := hV 8 _ rfl (hall 8 (by decide))
      have hv9 := hV 9 _ rfl (hall 9 (by decide))
      clear hV hall
      rw [putSel_fr]
      simp only [tells, List.map_cons, List.map_nil, setAll, List.set_cons_succ, List.set_cons_zero, hv0, hv1, hv2, hv3, hv4, hv5, hv6, hv7, hv8, hv9]
      clear hv0 hv1 hv2 hv3 hv4 hv5 hv6 hv7 hv8 hv9
      generalize w_ = w900601 at HS ⊢
      refine fr_at (l' := (.agg ((nums .u8 (q.map bv))).toArray :: .int .i64 (s : Int) :: .pointer (some ⟨g5, 0, none⟩) :: undef :: .slice A60 ((ctR q).length) c61 :: .int .u64 (uv (hdB q 0)) :: .bool true :: .int .u64 (uv (hdB q 0)) :: .int .i64 (szR q : Int) :: .slice A60 ((ctR q).length) c61 :: .int .i64 (i : Int) :: .agg ((nums .u8 (q.map bv))).toArray :: .int .u64 (uv (hdB q 0)) :: .pointer (some ⟨g5, 8, none⟩) :: .int .u8 (bv (q.getD 8 0)) :: .int .i64 (bv (q.getD 8 0)) :: V8.l qz55 (V8.l qz56 (.bool false :: .bool false :: v47 :: .slice A60 ((ctR q).length) c61 :: .int .i64 (((ctR q).length : Nat) : Int) :: .int .i64 (szR q : Int) :: .bool (decide ((((ctR q).length : Nat) : Int) < (szR q : Int))) :: u39 :: u40 :: u41 :: u42 :: u43 :: u44 :: u45 :: u46 :: u47 :: u48 :: u49 :: .slice A60 ((ctR q).length) c61 :: .int .u64 (uv (hdB q 0)) :: .int .u64 (uv (hdB q 0)) :: .slice A60 ((ctR q).length) c61 :: .agg ((nums .u8 ((pgB (hdB q 0) (rtS (ctR q))).map bv))).toArray :: .agg ((nums .u8 (q.map bv))).toArray :: .bool true :: [])))) rfl ?_
      refine hK90 _ _ ?_
      refine wp_ret ?_
      try simp only [Exit.inBlock, Exit.then]
      refine c_ret (.tuple [.slice A60 ((ctR q).length) c61, .int .u64 (uv (hdB q 0)), .bool true].toArray) (r_tmp3 rfl rfl rfl rfl) ?_
      rw [hok]
      exact ⟨_, ctR q, hdB q 0, rfl, (HS.front 1 rfl).drop, fun _ => ⟨(if_pos hok).symm, (if_pos hok).symm⟩⟩
end
end Go.Proofs.Ytenlkobjldhfgaa
