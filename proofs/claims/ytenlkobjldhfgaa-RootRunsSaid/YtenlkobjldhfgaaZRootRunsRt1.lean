/- Package root: seal, page, gens. -/
import Derived.Test.YtenlkobjldhfgaaZRootRunsRtP
import Derived.Test.YtenlkobjldhfgaaZRootRunsSealR
import Derived.Test.YtenlkobjldhfgaaZRootRunsShRT
import Derived.Test.YtenlkobjldhfgaaZRootRunsByWO
import Derived.Test.YtenlkobjldhfgaaZRootRunsFlat
import Derived.Test.YtenlkobjldhfgaaZRootRunsV8
set_option linter.unusedVariables false
set_option linter.unusedSimpArgs false
namespace Go.Proofs.Ytenlkobjldhfgaa
open Go.RowKit Go.Proofs.YtenlkobjldhfgaaW.PrintWords Go.Proofs.YtenlkobjldhfgaaW.PrintLast Crc
abbrev U4r1 (l : List Value) : List Value := undef :: undef :: undef :: undef :: l
abbrev U8r1 (l : List Value) : List Value := U4r1 (U4r1 l)
abbrev U16r1 (l : List Value) : List Value := U8r1 (U8r1 l)
abbrev U32r1 (l : List Value) : List Value := U16r1 (U16r1 l)
theorem ru_one {w : World} {q t : Nat} {g : UInt64} (h : (blk q [.int .u64 (uv g)] t).holds w) : Ru w (some ⟨q, 0, none⟩) [g] := by
 refine ⟨rfl, by simp, fun _ => ⟨_, rfl, fun j p hj => ?_⟩⟩
 match j, hj with
 | 0, hj =>
  obtain rfl : g = p := by simpa using hj
  refine ⟨[.int .u64 (uv g)], rfl, rfl, fun i u hu => ?_⟩
  match i, hu with
  | 0, hu =>
   obtain rfl : _ = u := by simpa using hu
   have := bkCell h 0 _ rfl
   simpa [kU64, Kd.scalar, Addr.add] using this
theorem putW (m : Nat) (hm : wideB (m : Int) = true) (g : UInt64) (hg : g.toNat < 256 ^ m) : putBytes [] (m : Int) [g] = leB m g.toNat ∧ putErr (m : Int) [g] = 0 := by
 have h : putOk (m : Int) [g] = true := by
  unfold putOk fits
  simp only [List.all_cons, List.all_nil, Bool.and_true, Bool.and_eq_true, decide_eq_true_eq]
  exact ⟨hm, by show g.toNat < 256 ^ m; exact hg⟩
 unfold putBytes putErr
 rw [if_pos h, if_pos h]
 exact ⟨by simp [packs], rfl⟩
section
variable {w0 W : World} {F : Nat → Prop} {L : List Res}
theorem putW_any (HS : St w0 F W L) (m : Nat) (hm : wideB (m : Int) = true) (q t : Nat) (g : UInt64) (hg : g.toNat < 256 ^ m) (hq : (blk q [.int .u64 (uv g)] t).holds W) :
  Calls Try.prog 48 #[.slice none 0 0, .int .i64 (m : Int), .slice (some ⟨q, 0, none⟩) 1 1] W fun e w' => ∃ A c, e = .returned (.tuple #[.slice A m c, .int .i64 0]) ∧ St w0 F w' (row kByte rfl 5 (.slice A m c) (leB m g.toNat) :: L) := by
 refine (put_any none 0 [] (m : Int) _ 1 [g] W (Sl.none _) (ru_one hq) (by simp)).mono ?_
 rintro e w' ⟨A, c, rfl, -, ho, hb⟩
 obtain ⟨e1, e2⟩ := putW m hm g hg
 rw [e1] at ho ⊢
 rw [e2, leB_length]
 rw [leB_length] at ho
 exact ⟨A, c, rfl, HS.made hb ho⟩
end
theorem rds_two {w : World} {q t n m c d : Nat} {A B : Option Addr} {xs ys : List UInt8} (h : (blk q [.slice A n c, .slice B m d] t).holds w) (hn : n = xs.length) (hm : m = ys.length) (hc : n ≤ c) (hd : m ≤ d) (hx : Rd w A xs) (hy : Rd w B ys) : Rds w (some ⟨q, 0, none⟩) [xs, ys] := by
 subst hn
 subst hm
 refine ⟨rfl, by simp, fun _ => ⟨_, rfl, fun j p hj => ?_⟩⟩
 match j, hj with
 | 0, hj =>
  obtain rfl : xs = p := by simpa using hj
  refine ⟨[.slice A xs.length c], rfl, ⟨A, c, rfl, hc, hx⟩, fun i u hu => ?_⟩
  match i, hu with
  | 0, hu =>
   obtain rfl : _ = u := by simpa using hu
   have := bkCell h 0 _ rfl
   simpa [kBytes, Kd.slice, Addr.add] using this
 | 1, hj =>
  obtain rfl : ys = p := by simpa using hj
  refine ⟨[.slice B ys.length d], rfl, ⟨B, d, rfl, hd, hy⟩, fun i u hu => ?_⟩
  match i, hu with
  | 0, hu =>
   obtain rfl : _ = u := by simpa using hu
   have := bkCell h 1 _ rfl
   simpa [kBytes, Kd.slice, Addr.add] using this
theorem uv_len {n : Nat} (h : n < 18446744073709551616) : IntKind.u64.wrap (n : Int) = uv (UInt64.ofNat n) := by
 unfold uv
 rw [IntKind.wrap_u64, UInt64.toNat_ofNat']
 omega
theorem ofN_lt {n m : Nat} (h : n < m) (hm : m ≤ 18446744073709551616) : (UInt64.ofNat n).toNat = n := by rw [UInt64.toNat_ofNat']; omega
theorem wr64' {x : Int} (h : -9223372036854775808 ≤ x ∧ x < 9223372036854775808) : IntKind.i64.wrap x = x := by rw [IntKind.wrap_i64]; omega
theorem rtS_eq (xs : List UInt8) : sealB [leB 2 xs.length, xs].flatten = rtS xs := by simp [rtS]
theorem rd_mid {w : World} {ad : Addr} {xs : List UInt8} (h : Rd w (some ad) xs) {k n : Nat} (hk : k ≤ xs.length) : (nums .u8 (((xs.drop k).take n).map bv)).length ≠ 0 → ∃ a, some (ad.add k) = some a ∧ ∀ j v, (nums .u8 (((xs.drop k).take n).map bv))[j]? = some v → w.cell? (a.add j) = some v := by
 intro _
 refine ⟨_, rfl, fun j v hv => ?_⟩
 unfold nums at hv
 rw [List.map_map, List.getElem?_map] at hv
 obtain ⟨y, hy, rfl⟩ := Option.map_eq_some_iff.1 hv
 obtain ⟨hj, rfl⟩ := List.getElem?_eq_some_iff.1 hy
 rw [List.length_take, List.length_drop] at hj
 obtain ⟨a', e, hc⟩ := h.at (k + j) (by omega)
 injection e with e
 subst e
 rw [addr_add, hc, List.getElem_take, List.getElem_drop]
 rfl
theorem blk_from {w : World} {g t k n : Nat} {q : List UInt8} (h : (blk g (nums .u8 (q.map bv)) t).holds w) (hl : q.length ≤ 256) : Rd w (some ⟨g, k, none⟩) ((q.drop k).take n) := by
 refine rd_sub h k ?_ (by rw [List.length_take, List.length_drop]; omega)
 unfold nums
 rw [List.length_take, List.length_drop, ← List.map_drop, ← List.map_take, ← List.map_drop, ← List.map_take]
 congr 2
 rw [List.take_eq_take_iff, List.length_drop]
 omega
theorem rn_hd {q : List UInt8} (hq : q.length = 256) {s : Nat} (hs : s < 8) : rn 8 (q.drop (32 * s), false) = uv (hdB q s) := by
 have hb : takeBad (q.drop (32 * s)) (false || !wideB 8) 8 = false := by
  have : wideB 8 = true := by decide
  unfold takeBad
  rw [this, List.length_drop]
  simp
  omega
 unfold rn takeOut hdB uv
 rw [show (q.drop (32 * s), false).2 = false from rfl, hb]
 show numB ((q.drop (32 * s)).take 8) = _
 have hl : ((q.drop (32 * s)).take 8).length = 8 := by rw [List.length_take, List.length_drop]; omega
 rw [numB_eq _ (by omega), UInt64.toNat_ofNat']
 have := leN_lt ((q.drop (32 * s)).take 8)
 rw [hl] at this
 rw [Nat.mod_eq_of_lt (by omega)]
theorem cells_of {w : World} {A : Option Addr} {n c e k : Nat} {xs : List UInt64} {hE : kU64.E = []} (h : (row kU64 hE e (.slice A n c) xs).holds w) (hk : k < xs.length) : ∃ ad, A = some ad ∧ w.cell? (ad.add (k * 1)) = some (.int .u64 (uv (xs.getD k 0))) := by
 obtain ⟨ad, e, hc⟩ := Ru.at (row_C h).2.2 k hk
 refine ⟨ad, e, ?_⟩
 rw [Nat.mul_one, hc, List.getD_eq_getElem?_getD, List.getElem?_eq_getElem hk]
 rfl
set_option maxRecDepth 10000 in
theorem seal_root (w : World) (A : Option Addr) (c : Nat) (xs : List UInt8) (hr : Rd w A xs) (hc : xs.length ≤ c) (hl : xs.length ≤ 60000) : Calls Try.prog 31 #[.slice A xs.length c] w fun e w' => ∃ A' c', e = .returned (.slice A' (rtS xs).length c') ∧ St w (fun _ => False) w' [row kByte rfl 5 (.slice A' (rtS xs).length c') (rtS xs)] := by
 have HS := St.empty w
 ·refine c_enter Try.func31 rfl 17 rfl (.slice A xs.length c :: U16r1 ([])) rfl ?_
  refine wp_seq_k (fun K1 hK2 => ?_)
  refine c_region (fun ops4 hops3 => ?_)
  clear hops3
  refine p_run _ (x_assign (.slice none 0 0) rfl rfl) rfl ?_
  refine wpList_nil ?_
  refine hK2 _ _ ?_
  refine wp_seq_k (fun K5 hK6 => ?_)
  refine c_region (fun ops8 hops7 => ?_)
  clear hops7
  refine p_run _ (x_move (.slice A xs.length c) rfl rfl) rfl ?_
  refine p_run _ (x_len rfl rfl Try.underlying24) rfl ?_
  refine p_run _ (x_conv (k := .i64) (m := (xs.length : Int)) .u64 ((uv (UInt64.ofNat xs.length))) rfl (by rw [Try.underlying3]; rfl) Try.underlying25 rfl (uv_len (by omega))) rfl ?_
  refine St.wLit1 HS [.int .u64 (uv (UInt64.ofNat xs.length))] 1 (.int .u64 0) (.int .u64 (uv (UInt64.ofNat xs.length))) Try.underlying93 (by kernel_rfl) (by decide) rfl rfl rfl ?_
  clear HS
  intro g9 w10 hg11 HS
  refine w_call [.slice none 0 0, .int .i64 2, .slice (some ⟨g9, 0, none⟩) 1 1] Try.func48 (by kernel_rfl) (by rfl) rfl ?_
  refine (putW_any HS 2 (by decide) g9 25 (UInt64.ofNat xs.length) (by rw [ofN_lt (m := 65536) (by omega) (by decide)]; omega) (HS.get (.head _))).mono ?_
  clear HS
  rintro e w14 ⟨oa12, nc13, rfl, HS⟩
  refine ⟨_, rfl, ?_⟩
  refine p_run _ (x_move (.tuple [.slice oa12 2 nc13, .int .i64 0].toArray) rfl rfl) rfl ?_
  refine p_run _ (x_extract (vs := [.slice oa12 2 nc13, .int .i64 0]) 0 (.slice oa12 2 nc13) rfl rfl rfl) rfl ?_
  refine p_run _ (x_extract (vs := [.slice oa12 2 nc13, .int .i64 0]) 1 (.int .i64 0) rfl rfl rfl) rfl ?_
  refine p_run _ (x_assign (.slice oa12 2 nc13) rfl rfl) rfl ?_
  refine p_run _ (x_assign (.int .i64 0) rfl rfl) rfl ?_
  refine wpList_nil ?_
  refine hK6 _ _ ?_
  refine wp_seq_k (fun K15 hK16 => ?_)
  refine c_region (fun ops18 hops17 => ?_)
  clear hops17
  refine p_run _ (x_move (.slice oa12 2 nc13) rfl rfl) rfl ?_
  refine p_run _ (x_move (.slice A xs.length c) rfl rfl) rfl ?_
  refine St.wLit HS (cs := [.slice oa12 2 nc13, .slice A xs.length c]) 1 (.slice none 0 0) Try.underlying33 (by kernel_rfl) (by decide) (by kernel_rfl) ?_
  clear HS
  intro g19 w20 hg21 HS
  refine fr_to (l' := (.slice A xs.length c :: undef :: .slice none 0 0 :: .slice oa12 2 nc13 :: .int .i64 0 :: .tuple [.slice oa12 2 nc13, .int .i64 0].toArray :: .slice A xs.length c :: .int .i64 (xs.length : Int) :: .int .u64 (uv (UInt64.ofNat xs.length)) :: .slice (some ⟨g9, 0, none⟩) 1 1 :: .tuple [.slice oa12 2 nc13, .int .i64 0].toArray :: .slice oa12 2 nc13 :: .int .i64 0 :: .slice oa12 2 nc13 :: .slice A xs.length c :: .slice (some ⟨g19, 0, none⟩) 2 2 :: undef :: [])) rfl ?_
  refine w_call [.slice (some ⟨g19, 0, none⟩) 2 2] Try.func49 (by kernel_rfl) (by rfl) rfl ?_
  rw [ofN_lt (m := 65536) (by omega) (by decide)] at HS
  refine (sealR_any HS _ 2 2 (rtS xs).length [leB 2 xs.length, xs] rfl (rds_two (HS.get (.head _)) (row_rd (HS.get (.tail _ (.head _)))).1 rfl (row_rd (HS.get (.tail _ (.head _)))).2.1 hc (row_rd (HS.get (.tail _ (.head _)))).2.2 (Rd.below hr HS.belowOf)) (by rw [rtS_eq]) (by rw [rtS_len]; omega)).mono ?_
  clear HS
  rintro e w24 ⟨oa22, nc23, rfl, HS⟩
  rw [rtS_eq] at HS
  refine ⟨_, rfl, ?_⟩
  refine p_run _ (x_assign (.slice oa22 ((rtS xs).length) nc23) rfl rfl) rfl ?_
  refine wpList_nil ?_
  refine hK16 _ _ ?_
  refine wp_ret ?_
  try simp only [Exit.inBlock, Exit.then]
  refine c_ret (.slice oa22 ((rtS xs).length) nc23) (r_tmp rfl rfl) ?_
  exact ⟨_, _, rfl, (((HS.front 1 rfl).drop.front 1 rfl).drop.front 1 rfl).drop⟩
set_option maxRecDepth 10000 in
set_option maxHeartbeats 2000000 in
theorem page_root (w : World) (g : UInt64) (A : Option Addr) (c : Nat) (st : List UInt8) (hr : Rd w A st) (hc : st.length ≤ c) (hl : st.length ≤ 100000) : Calls Try.prog 30 #[.int .u64 (uv g), .slice A st.length c] w fun e w' => e = .returned (.agg (nums .u8 ((pgB g st).map bv)).toArray) ∧ Below w.heap.size w w' := by
 have HS := St.empty w
 ·refine c_enter Try.func30 rfl 43 rfl (.int .u64 (uv g) :: .slice A st.length c :: U32r1 (U8r1 (undef :: []))) rfl ?_
  refine wp_seq_k (fun K1 hK2 => ?_)
  refine c_region (fun ops4 hops3 => ?_)
  clear hops3
  refine St.wAlloc HS (cs := ((nums .u8 zpg))) (.agg ((nums .u8 zpg)).toArray) (by kernel_rfl) rfl ?_
  clear HS
  intro g5 w6 hg7 HS
  refine wpList_nil ?_
  refine hK2 _ _ ?_
  refine wp_seq_k (fun K8 hK9 => ?_)
  refine c_region (fun ops11 hops10 => ?_)
  clear hops10
  refine St.wAlloc HS (cs := ((nums .u8 zpg))) (.agg ((nums .u8 zpg)).toArray) (by kernel_rfl) rfl ?_
  clear HS
  intro g12 w13 hg14 HS
  refine wpList_nil ?_
  refine hK9 _ _ ?_
  refine wp_seq_k (fun K15 hK16 => ?_)
  refine wp_seq_k (fun K17 hK18 => ?_)
  refine c_region (fun ops20 hops19 => ?_)
  clear hops19
  refine p_run _ (x_move (.int .i64 0) rfl rfl) rfl ?_
  refine wpList_nil ?_
  refine fr_at (l' := (.int .u64 (uv g) :: .slice A st.length c :: undef :: undef :: .pointer (some ⟨g5, 0, none⟩) :: .pointer (some ⟨g12, 0, none⟩) :: U4r1 (undef :: .int .i64 0 :: U16r1 (U8r1 (U4r1 (undef :: undef :: undef :: [])))))) rfl ?_
  refine hK18 _ _ ?_
  refine wp_block ?_
  refine c_loop (ι := Nat) (fun i_ a_ w_ => match i_ with | j => ∃ (q21 : V8) (q22 : V8) (q23 : V8) (q24 : V8) (q25 : V8), a_ = fr (.int .u64 (uv g) :: .slice A st.length c :: undef :: undef :: .pointer (some ⟨g5, 0, none⟩) :: .pointer (some ⟨g12, 0, none⟩) :: q21.a :: q21.b :: q21.c :: q21.d :: q21.e :: .int .i64 (j : Int) :: q21.f :: q21.g :: q21.h :: V8.l q22 (V8.l q23 (V8.l q24 (q25.a :: q25.b :: q25.c :: undef :: [])))) ∧ St w (fun _ => False) w_ ([blk g12 ((nums .u8 ((pgJ g st j).map bv))) 38, blk g5 ((nums .u8 zpg)) 38]) ∧ (j ≤ 8)) (fun i_ => match i_ with | j => 8 - j) 0 ?_ ?_
  ·exact ⟨⟨undef, undef, undef, undef, undef, undef, undef, undef⟩, ⟨undef, undef, undef, undef, undef, undef, undef, undef⟩, ⟨undef, undef, undef, undef, undef, undef, undef, undef⟩, ⟨undef, undef, undef, undef, undef, undef, undef, undef⟩, ⟨undef, undef, undef, undef, undef, undef, undef, undef⟩, rfl, (by rw [pgJ_zero]; exact ((HS.front 1 rfl).front 1 rfl)), (by omega)⟩
  ·clear HS
   rintro j a_ w28 ⟨q21, q22, q23, q24, q25, rfl, HS, hI⟩ J26 hJ27
   have hj := hI
   refine wp_seq_k (fun K29 hK30 => ?_)
   refine c_region (fun ops32 hops31 => ?_)
   clear hops31
   refine p_run _ (x_cmp (k := .i64) (m := (j : Int)) (n := 8) .lss (decide ((j : Int) < 8)) rfl rfl rfl rfl rfl) rfl ?_
   refine wpList_nil ?_
   refine hK30 _ _ ?_
   refine wp_seq_k (fun K33 hK34 => ?_)
   refine c_cond (t := decide ((j : Int) < 8)) rfl (fun hc35 => ?_) (fun hc35 => ?_)
   ·have hlt : j < 8 := by have := of_decide_eq_true hc35; omega
    refine wp_skip ?_
    refine hK34 _ _ ?_
    refine wp_seq_k (fun K36 hK37 => ?_)
    refine wp_block ?_
    refine wp_seq_k (fun K38 hK39 => ?_)
    refine c_region (fun ops41 hops40 => ?_)
    clear hops40
    refine p_run _ (x_move (.int .i64 (j : Int)) rfl rfl) rfl ?_
    refine p_run _ (x_assign (.int .i64 (j : Int)) rfl rfl) rfl ?_
    refine wpList_nil ?_
    refine hK39 _ _ ?_
    refine wp_seq_k (fun K42 hK43 => ?_)
    refine c_region (fun ops45 hops44 => ?_)
    clear hops44
    refine p_run _ (x_move (.int .u64 (uv g)) rfl rfl) rfl ?_
    refine St.wLit1 HS [.int .u64 (uv g)] 1 (.int .u64 0) (.int .u64 (uv g)) Try.underlying93 (by kernel_rfl) (by decide) rfl rfl rfl ?_
    clear HS
    intro g46 w47 hg48 HS
    refine w_call [.slice none 0 0, .int .i64 8, .slice (some ⟨g46, 0, none⟩) 1 1] Try.func48 (by kernel_rfl) (by rfl) rfl ?_
    refine (putW_any HS 8 (by decide) g46 25 g (by have := g.toNat_lt; omega) (HS.get (.head _))).mono ?_
    clear HS
    rintro e w51 ⟨oa49, nc50, rfl, HS⟩
    refine ⟨_, rfl, ?_⟩
    refine p_run _ (x_move (.tuple [.slice oa49 8 nc50, .int .i64 0].toArray) rfl rfl) rfl ?_
    refine p_run _ (x_extract (vs := [.slice oa49 8 nc50, .int .i64 0]) 0 (.slice oa49 8 nc50) rfl rfl rfl) rfl ?_
    refine p_run _ (x_extract (vs := [.slice oa49 8 nc50, .int .i64 0]) 1 (.int .i64 0) rfl rfl rfl) rfl ?_
    refine p_run _ (x_assign (.slice oa49 8 nc50) rfl rfl) rfl ?_
    refine p_run _ (x_assign (.int .i64 0) rfl rfl) rfl ?_
    refine wpList_nil ?_
    refine hK43 _ _ ?_
    refine wp_seq_k (fun K52 hK53 => ?_)
    refine c_region (fun ops55 hops54 => ?_)
    clear hops54
    refine p_run _ (x_move (.int .i64 (j : Int)) rfl rfl) rfl ?_
    refine p_run _ (x_arith (k := .i64) (m := (j : Int)) (n := 32) .mul (((32 * j : Nat) : Int)) rfl rfl rfl (show IntKind.i64.wrap ((j : Int) * 32) = ((32 * j : Nat) : Int) from ((wr64' (by omega)).trans (by omega))) rfl) rfl ?_
    refine p_run (l' := (.int .u64 (uv g) :: .slice A st.length c :: undef :: undef :: .pointer (some ⟨g5, 0, none⟩) :: .pointer (some ⟨g12, 0, none⟩) :: .int .i64 (j : Int) :: .slice oa49 8 nc50 :: .int .i64 0 :: .int .i64 ((32 * j : Nat) : Int) :: q21.e :: .int .i64 (j : Int) :: .bool (decide ((j : Int) < 8)) :: .int .i64 (j : Int) :: .tuple [.slice oa49 8 nc50, .int .i64 0].toArray :: .int .u64 (uv g) :: .slice (some ⟨g46, 0, none⟩) 1 1 :: .tuple [.slice oa49 8 nc50, .int .i64 0].toArray :: .slice oa49 8 nc50 :: .int .i64 0 :: .int .i64 (j : Int) :: .int .i64 ((32 * j : Nat) : Int) :: q22.h :: V8.l q23 (V8.l q24 (q25.a :: q25.b :: q25.c :: undef :: [])))) _ (x_assign (.int .i64 ((32 * j : Nat) : Int)) rfl rfl) rfl ?_
    refine wpList_nil ?_
    refine hK53 _ _ ?_
    refine wp_seq_k (fun K56 hK57 => ?_)
    refine c_region (fun ops59 hops58 => ?_)
    clear hops58
    refine p_run _ (x_move (.int .i64 ((32 * j : Nat) : Int)) rfl rfl) rfl ?_
    refine p_run (.slice (some ⟨g12, 0 + (32 * j : Nat), none⟩) (256 - 32 * j) (256 - 32 * j)) ((x_sliceArr (sz := 1) (L := (some (.tmp 22))) (H := none) (lo := (32 * j : Nat)) (hi := 256) ⟨g12, 0 + (32 * j : Nat), none⟩ rfl rfl Try.underlying38 (by kernel_rfl) ⟨_, _, rfl, (by omega), rfl⟩ rfl (by omega) (by omega) (by rw [if_neg (by omega), add_mk, Nat.mul_one])).trans (by first | rfl | (rw [show 256 - (32 * j : Nat) = 256 - 32 * j from (by omega), show 256 - (32 * j : Nat) = 256 - 32 * j from (by omega)]))) rfl ?_
    refine p_run _ (x_move (.slice oa49 8 nc50) rfl rfl) rfl ?_
    refine St.wCopy (HS.front 2 rfl) Try.underlying24 (by kernel_rfl) rfl rfl (nums .u8 ((leB 8 (g).toNat).map bv)) (by rw [nums_length, List.length_map, leB_length]; exact (Nat.min_eq_left (by omega)).symm) (rd_cells (row_rd (HS.get (.head _))).2.2) (by rw [nums_length, nums_length, List.length_map, List.length_map, pgJ_len g st hj, leB_length]; omega) (nums_one _ _) (show lay _ _ _ = nums .u8 ((pgH g st j).map bv) from (by rw [Nat.zero_add]; exact lay_spl _ _ _)) ?_
    clear HS
    intro w60 HS
    rw [fr_put]
    refine wpList_nil ?_
    refine hK57 _ _ ?_
    refine wp_seq_k (fun K61 hK62 => ?_)
    refine c_region (fun ops64 hops63 => ?_)
    clear hops63
    refine p_run _ (x_move (.int .i64 (j : Int)) rfl rfl) rfl ?_
    refine p_run _ (x_arith (k := .i64) (m := (j : Int)) (n := 24) .mul (((24 * j : Nat) : Int)) rfl rfl rfl (show IntKind.i64.wrap ((j : Int) * 24) = ((24 * j : Nat) : Int) from ((wr64' (by omega)).trans (by omega))) rfl) rfl ?_
    refine p_run _ (x_assign (.int .i64 ((24 * j : Nat) : Int)) rfl rfl) rfl ?_
    refine wpList_nil ?_
    refine hK62 _ _ ?_
    refine wp_seq_k (fun K65 hK66 => ?_)
    refine c_region (fun ops68 hops67 => ?_)
    clear hops67
    refine p_run _ (x_move (.int .i64 ((24 * j : Nat) : Int)) rfl rfl) rfl ?_
    refine p_run _ (x_move (.slice A st.length c) rfl rfl) rfl ?_
    refine p_run _ (x_len rfl rfl Try.underlying24) rfl ?_
    refine p_run _ (x_cmp (k := .i64) (m := ((24 * j : Nat) : Int)) (n := (st.length : Int)) .lss (decide (((24 * j : Nat) : Int) < (st.length : Int))) rfl rfl rfl rfl rfl) rfl ?_
    refine wpList_nil ?_
    refine hK66 _ _ ?_
    refine c_cond (t := decide (((24 * j : Nat) : Int) < (st.length : Int))) rfl (fun hc69 => ?_) (fun hc69 => ?_)
    ·have hfl : 24 * j < st.length := by have := of_decide_eq_true hc69; omega
     obtain ⟨ad, hA⟩ := rd_some hr (by omega)
     subst hA
     refine free_frame (n := 9) (T := _) [0, 1, 0, 4, 15, 0, 0, 96, 255] [(0, 32), (1, 33), (2, 34), (3, 35), (4, 36), (5, 37), (6, 38), (7, 39), (8, 40)] (fun bq_ vq_ w_ => qv ((fun i_ => match i_ with | 0 => some (.int .i64 ((32 * j : Nat) : Int)) | 1 => some (.int .i64 ((32 * j + 8 : Nat) : Int)) | 2 => some (.int .i64 ((32 * j : Nat) : Int)) | 3 => some (.int .i64 ((32 * j + 32 : Nat) : Int)) | 4 => some (.slice (some ⟨g12, 0 + (32 * j + 8 : Nat), none⟩) 24 (256 - (32 * j + 8))) | 5 => some (.slice (some ad) st.length c) | 6 => some (.int .i64 ((24 * j : Nat) : Int)) | 7 => some (.slice (some (ad.add (24 * j))) (st.length - 24 * j) (c - 24 * j)) | _ => none) : Nat → Option Value) bq_ vq_ ∧ cond (bq_ 8) (vq_ 8 = .int .i64 ((nums .u8 (((st.drop (24 * j)).take 24).map bv)).length : Int) ∧ St w (fun _ => False) w_ ([blk g12 ((nums .u8 ((pgJ g st (j + 1)).map bv))) 38, row kByte rfl 5 (.slice oa49 8 nc50) (leB 8 (g).toNat), blk g46 [.int .u64 (uv g)] 25, blk g5 ((nums .u8 zpg)) 38])) ((St w (fun _ => False) w_ ([blk g12 ((nums .u8 ((pgH g st j).map bv))) 38, row kByte rfl 5 (.slice oa49 8 nc50) (leB 8 (g).toNat), blk g46 [.int .u64 (uv g)] 25, blk g5 ((nums .u8 zpg)) 38])))) (by kernel_rfl) rfl rfl (by kernel_rfl) (by kernel_rfl) rfl (by kernel_rfl) (by kernel_rfl) ⟨qv_none, HS.draw⟩ ?_ ?_
     ·clear HS
      intro i_ hi_ bq_ vq_ a_ w_ hG hb_ hon hoff hfr hel hval
      obtain ⟨hV, hE⟩ := hG
      have hi_ := List.mem_range.1 hi_
      obtain ⟨l_, rfl⟩ := hfr
      have hv_ := fun (j t : Nat) (v : Value) (h1 : (j, t) ∈ [(0, 32), (1, 33), (2, 34), (3, 35), (4, 36), (5, 37), (6, 38), (7, 39), (8, 40)]) h2 h3 => (hval (j, t) h1 h3).trans (congrArg some (hV j v h2 h3))
      have hcs : i_ = 0 ∨ i_ = 1 ∨ i_ = 2 ∨ i_ = 3 ∨ i_ = 4 ∨ i_ = 5 ∨ i_ = 6 ∨ i_ = 7 ∨ i_ = 8 := by omega
      rcases hcs with rfl | rfl | rfl | rfl | rfl | rfl | rfl | rfl | rfl
      ·have e9 : evl l_ (.tmp 9) = .int .i64 ((32 * j : Nat) : Int) := evl_of ((hel 9 (by decide)).trans rfl)
       exact ⟨_, rfl, fun K_ hK_ => q_op _ (x_move (.int .i64 ((32 * j : Nat) : Int)) rfl e9) (hK_ _ _ ⟨qv_up hV (fun _ h => Option.some.inj h), hE⟩)⟩
      ·have e32 : evl l_ (.tmp 32) = .int .i64 ((32 * j : Nat) : Int) := evl_of (hv_ 0 32 _ (by decide) rfl (hon 0 (by decide)))
       exact ⟨_, rfl, fun K_ hK_ => q_op _ (x_arith (k := .i64) (m := ((32 * j : Nat) : Int)) (n := 8) .add (((32 * j + 8 : Nat) : Int)) rfl e32 rfl (show IntKind.i64.wrap (((32 * j : Nat) : Int) + 8) = ((32 * j + 8 : Nat) : Int) from ((wr64' (by omega)).trans (by omega))) rfl) (hK_ _ _ ⟨qv_up hV (fun _ h => Option.some.inj h), hE⟩)⟩
      ·have e9 : evl l_ (.tmp 9) = .int .i64 ((32 * j : Nat) : Int) := evl_of ((hel 9 (by decide)).trans rfl)
       exact ⟨_, rfl, fun K_ hK_ => q_op _ (x_move (.int .i64 ((32 * j : Nat) : Int)) rfl e9) (hK_ _ _ ⟨qv_up hV (fun _ h => Option.some.inj h), hE⟩)⟩
      ·have e34 : evl l_ (.tmp 34) = .int .i64 ((32 * j : Nat) : Int) := evl_of (hv_ 2 34 _ (by decide) rfl (hon 2 (by decide)))
       exact ⟨_, rfl, fun K_ hK_ => q_op _ (x_arith (k := .i64) (m := ((32 * j : Nat) : Int)) (n := 32) .add (((32 * j + 32 : Nat) : Int)) rfl e34 rfl (show IntKind.i64.wrap (((32 * j : Nat) : Int) + 32) = ((32 * j + 32 : Nat) : Int) from ((wr64' (by omega)).trans (by omega))) rfl) (hK_ _ _ ⟨qv_up hV (fun _ h => Option.some.inj h), hE⟩)⟩
      ·have e5 : evl l_ (.tmp 5) = .pointer (some ⟨g12, 0, none⟩) := evl_of ((hel 5 (by decide)).trans rfl)
       have e33 : evl l_ (.tmp 33) = .int .i64 ((32 * j + 8 : Nat) : Int) := evl_of (hv_ 1 33 _ (by decide) rfl (hon 1 (by decide)))
       have e35 : evl l_ (.tmp 35) = .int .i64 ((32 * j + 32 : Nat) : Int) := evl_of (hv_ 3 35 _ (by decide) rfl (hon 3 (by decide)))
       exact ⟨_, rfl, fun K_ hK_ => q_op (.slice (some ⟨g12, 0 + (32 * j + 8 : Nat), none⟩) 24 (256 - (32 * j + 8))) ((x_sliceArr (sz := 1) (L := (some (.tmp 33))) (H := (some (.tmp 35))) (lo := (32 * j + 8 : Nat)) (hi := (32 * j + 32 : Nat)) ⟨g12, 0 + (32 * j + 8 : Nat), none⟩ rfl e5 Try.underlying38 (by kernel_rfl) ⟨_, _, e33, (by omega), rfl⟩ ⟨_, _, e35, (by omega), rfl⟩ (by omega) (by omega) (by rw [if_neg (by omega), add_mk, Nat.mul_one])).trans (by first | rfl | (rw [show (32 * j + 32 : Nat) - (32 * j + 8 : Nat) = 24 from (by omega), show 256 - (32 * j + 8 : Nat) = 256 - (32 * j + 8) from (by omega)]))) (hK_ _ _ ⟨qv_up hV (fun _ h => Option.some.inj h), hE⟩)⟩
      ·have e1 : evl l_ (.tmp 1) = .slice (some ad) st.length c := evl_of ((hel 1 (by decide)).trans rfl)
       exact ⟨_, rfl, fun K_ hK_ => q_op _ (x_move (.slice (some ad) st.length c) rfl e1) (hK_ _ _ ⟨qv_up hV (fun _ h => Option.some.inj h), hE⟩)⟩
      ·have e10 : evl l_ (.tmp 10) = .int .i64 ((24 * j : Nat) : Int) := evl_of ((hel 10 (by decide)).trans rfl)
       exact ⟨_, rfl, fun K_ hK_ => q_op _ (x_move (.int .i64 ((24 * j : Nat) : Int)) rfl e10) (hK_ _ _ ⟨qv_up hV (fun _ h => Option.some.inj h), hE⟩)⟩
      ·have e37 : evl l_ (.tmp 37) = .slice (some ad) st.length c := evl_of (hv_ 5 37 _ (by decide) rfl (hon 5 (by decide)))
       have e38 : evl l_ (.tmp 38) = .int .i64 ((24 * j : Nat) : Int) := evl_of (hv_ 6 38 _ (by decide) rfl (hon 6 (by decide)))
       exact ⟨_, rfl, fun K_ hK_ => q_op (.slice (some (ad.add (24 * j))) (st.length - 24 * j) (c - 24 * j)) ((x_slice (sz := 1) (L := (some (.tmp 38))) (H := none) (lo := (24 * j : Nat)) (hi := st.length) (some (ad.add (24 * j))) rfl e37 Try.underlying24 (by kernel_rfl) ⟨_, _, e38, (by omega), rfl⟩ rfl (by omega) (by omega) (by rw [if_neg (by omega)]; simp only [Option.map_some, Nat.mul_one])).trans (by first | rfl | (rw [show st.length - (24 * j : Nat) = st.length - 24 * j from (by omega), show c - (24 * j : Nat) = c - 24 * j from (by omega)]))) (hK_ _ _ ⟨qv_up hV (fun _ h => Option.some.inj h), hE⟩)⟩
      ·have h36 : (fr l_).tmps[36]? = some (.slice (some ⟨g12, 0 + (32 * j + 8 : Nat), none⟩) 24 (256 - (32 * j + 8))) := hv_ 4 36 _ (by decide) rfl (hon 4 (by decide))
       have h39 : (fr l_).tmps[39]? = some (.slice (some (ad.add (24 * j))) (st.length - 24 * j) (c - 24 * j)) := hv_ 7 39 _ (by decide) rfl (hon 7 (by decide))
       have hE0 := hE
       rw [show bq_ 8 = false from hb_] at hE0
       simp only [cond_true, cond_false] at hE0
       have HS := hE0
       have e36 : evl l_ (.tmp 36) = .slice (some ⟨g12, 0 + (32 * j + 8 : Nat), none⟩) 24 (256 - (32 * j + 8)) := evl_of h36
       have e39 : evl l_ (.tmp 39) = .slice (some (ad.add (24 * j))) (st.length - 24 * j) (c - 24 * j) := evl_of h39
       refine ⟨_, rfl, fun K_ hK_ => wp_of_list rfl ?_⟩
       intro ops_
       refine St.wCopy HS Try.underlying24 (by kernel_rfl) e36 e39 (nums .u8 (((st.drop (24 * j)).take 24).map bv)) (by rw [nums_length, List.length_map, List.length_take, List.length_drop]; exact Nat.min_comm _ _) (rd_mid (Rd.below hr HS.belowOf) (by omega)) (by rw [nums_length, nums_length, List.length_map, List.length_map, pgH_len g st hlt, List.length_take, List.length_drop]; omega) (nums_one _ _) (show lay _ _ _ = nums .u8 ((pgJ g st (j + 1)).map bv) from (by rw [Nat.zero_add, ← pgJ_step g st hlt]; exact lay_spl _ _ _)) ?_
       clear HS
       intro w900801 HS
       rw [fr_put]
       refine wpList_nil ?_
       refine norm_put (hK_ (.int .i64 ((nums .u8 (((st.drop (24 * j)).take 24).map bv)).length : Int)) _ ⟨qv_up hV (by intro _ h; cases h), ?_⟩)
       show cond true _ _
       rw [cond_true]
       exact ⟨rfl, ((((HS.front 3 rfl).front 3 rfl).front 3 rfl).front 3 rfl)⟩
     intro bq_ vq_ w_ hall hG
     obtain ⟨hV, hE⟩ := hG
     clear HS
     rw [show bq_ 8 = true from hall 8 (by decide)] at hE
     simp only [cond_true] at hE
     obtain ⟨hv8, HS⟩ := hE
     have hv0 := hV 0 _ rfl (hall 0 (by decide))
     have hv1 := hV 1 _ rfl (hall 1 (by decide))
     have hv2 := hV 2 _ rfl (hall 2 (by decide))
     have hv3 := hV 3 _ rfl (hall 3 (by decide))
     have hv4 := hV 4 _ rfl (hall 4 (by decide))
     have hv5 := hV 5 _ rfl (hall 5 (by decide))
     have hv6 := hV 6 _ rfl (hall 6 (by decide))
     have hv7 := hV 7 _ rfl (hall 7 (by decide))
     clear hV hall
     rw [putSel_fr]
     simp only [tells, List.map_cons, List.map_nil, setAll, List.set_cons_succ, List.set_cons_zero, hv0, hv1, hv2, hv3, hv4, hv5, hv6, hv7, hv8]
     clear hv0 hv1 hv2 hv3 hv4 hv5 hv6 hv7 hv8
     generalize w_ = w900802 at HS ⊢
     refine fr_at (l' := (.int .u64 (uv g) :: .slice (some ad) st.length c :: undef :: undef :: .pointer (some ⟨g5, 0, none⟩) :: .pointer (some ⟨g12, 0, none⟩) :: .int .i64 (j : Int) :: .slice oa49 8 nc50 :: .int .i64 0 :: .int .i64 ((32 * j : Nat) : Int) :: .int .i64 ((24 * j : Nat) : Int) :: .int .i64 (j : Int) :: .bool (decide ((j : Int) < 8)) :: .int .i64 (j : Int) :: .tuple [.slice oa49 8 nc50, .int .i64 0].toArray :: .int .u64 (uv g) :: .slice (some ⟨g46, 0, none⟩) 1 1 :: .tuple [.slice oa49 8 nc50, .int .i64 0].toArray :: .slice oa49 8 nc50 :: .int .i64 0 :: .int .i64 (j : Int) :: .int .i64 ((32 * j : Nat) : Int) :: .int .i64 ((32 * j : Nat) : Int) :: .slice (some ⟨g12, 0 + (32 * j : Nat), none⟩) (256 - 32 * j) (256 - 32 * j) :: .slice oa49 8 nc50 :: .int .i64 ((nums .u8 ((leB 8 (g).toNat).map bv)).length : Int) :: .int .i64 (j : Int) :: .int .i64 ((24 * j : Nat) : Int) :: .int .i64 ((24 * j : Nat) : Int) :: .slice (some ad) st.length c :: .int .i64 (st.length : Int) :: .bool (decide (((24 * j : Nat) : Int) < (st.length : Int))) :: .int .i64 ((32 * j : Nat) : Int) :: .int .i64 ((32 * j + 8 : Nat) : Int) :: .int .i64 ((32 * j : Nat) : Int) :: .int .i64 ((32 * j + 32 : Nat) : Int) :: .slice (some ⟨g12, 0 + (32 * j + 8 : Nat), none⟩) 24 (256 - (32 * j + 8)) :: .slice (some ad) st.length c :: .int .i64 ((24 * j : Nat) : Int) :: .slice (some (ad.add (24 * j))) (st.length - 24 * j) (c - 24 * j) :: .int .i64 ((nums .u8 (((st.drop (24 * j)).take 24).map bv)).length : Int) :: q25.c :: undef :: [])) rfl ?_
     refine hK37 _ _ ?_
     refine c_region (fun ops900804 hops900803 => ?_)
     clear hops900803
     refine p_run _ (x_arith (k := .i64) (m := (j : Int)) (n := 1) .add (((j + 1 : Nat) : Int)) rfl rfl rfl (show IntKind.i64.wrap ((j : Int) + 1) = ((j + 1 : Nat) : Int) from ((wr64' (by omega)).trans (by omega))) rfl) rfl ?_
     refine p_run _ (x_move (.int .i64 ((j + 1 : Nat) : Int)) rfl rfl) rfl ?_
     refine wpList_nil ?_
     refine fr_at (l' := (.int .u64 (uv g) :: .slice (some ad) st.length c :: undef :: undef :: .pointer (some ⟨g5, 0, none⟩) :: .pointer (some ⟨g12, 0, none⟩) :: .int .i64 (j : Int) :: .slice oa49 8 nc50 :: .int .i64 0 :: .int .i64 ((32 * j : Nat) : Int) :: .int .i64 ((24 * j : Nat) : Int) :: .int .i64 ((j + 1 : Nat) : Int) :: .bool (decide ((j : Int) < 8)) :: .int .i64 (j : Int) :: .tuple [.slice oa49 8 nc50, .int .i64 0].toArray :: .int .u64 (uv g) :: .slice (some ⟨g46, 0, none⟩) 1 1 :: .tuple [.slice oa49 8 nc50, .int .i64 0].toArray :: .slice oa49 8 nc50 :: .int .i64 0 :: .int .i64 (j : Int) :: .int .i64 ((32 * j : Nat) : Int) :: .int .i64 ((32 * j : Nat) : Int) :: .slice (some ⟨g12, 0 + (32 * j : Nat), none⟩) (256 - 32 * j) (256 - 32 * j) :: .slice oa49 8 nc50 :: .int .i64 ((nums .u8 ((leB 8 (g).toNat).map bv)).length : Int) :: .int .i64 (j : Int) :: .int .i64 ((24 * j : Nat) : Int) :: .int .i64 ((24 * j : Nat) : Int) :: .slice (some ad) st.length c :: .int .i64 (st.length : Int) :: .bool (decide (((24 * j : Nat) : Int) < (st.length : Int))) :: .int .i64 ((32 * j : Nat) : Int) :: .int .i64 ((32 * j + 8 : Nat) : Int) :: .int .i64 ((32 * j : Nat) : Int) :: .int .i64 ((32 * j + 32 : Nat) : Int) :: .slice (some ⟨g12, 0 + (32 * j + 8 : Nat), none⟩) 24 (256 - (32 * j + 8)) :: .slice (some ad) st.length c :: .int .i64 ((24 * j : Nat) : Int) :: .slice (some (ad.add (24 * j))) (st.length - 24 * j) (c - 24 * j) :: .int .i64 ((nums .u8 (((st.drop (24 * j)).take 24).map bv)).length : Int) :: .int .i64 ((j + 1 : Nat) : Int) :: undef :: [])) rfl ?_
     refine hJ27 (j + 1) _ _ ?_ ?_
     ·show 8 - (j + 1) < 8 - j; omega
     ·exact ⟨⟨.int .i64 (j : Int), .slice oa49 8 nc50, .int .i64 0, .int .i64 ((32 * j : Nat) : Int), .int .i64 ((24 * j : Nat) : Int), .bool (decide ((j : Int) < 8)), .int .i64 (j : Int), .tuple [.slice oa49 8 nc50, .int .i64 0].toArray⟩, ⟨.int .u64 (uv g), .slice (some ⟨g46, 0, none⟩) 1 1, .tuple [.slice oa49 8 nc50, .int .i64 0].toArray, .slice oa49 8 nc50, .int .i64 0, .int .i64 (j : Int), .int .i64 ((32 * j : Nat) : Int), .int .i64 ((32 * j : Nat) : Int)⟩, ⟨.slice (some ⟨g12, 0 + (32 * j : Nat), none⟩) (256 - 32 * j) (256 - 32 * j), .slice oa49 8 nc50, .int .i64 ((nums .u8 ((leB 8 (g).toNat).map bv)).length : Int), .int .i64 (j : Int), .int .i64 ((24 * j : Nat) : Int), .int .i64 ((24 * j : Nat) : Int), .slice (some ad) st.length c, .int .i64 (st.length : Int)⟩, ⟨.bool (decide (((24 * j : Nat) : Int) < (st.length : Int))), .int .i64 ((32 * j : Nat) : Int), .int .i64 ((32 * j + 8 : Nat) : Int), .int .i64 ((32 * j : Nat) : Int), .int .i64 ((32 * j + 32 : Nat) : Int), .slice (some ⟨g12, 0 + (32 * j + 8 : Nat), none⟩) 24 (256 - (32 * j + 8)), .slice (some ad) st.length c, .int .i64 ((24 * j : Nat) : Int)⟩, ⟨.slice (some (ad.add (24 * j))) (st.length - 24 * j) (c - 24 * j), .int .i64 ((nums .u8 (((st.drop (24 * j)).take 24).map bv)).length : Int), .int .i64 ((j + 1 : Nat) : Int), undef, undef, undef, undef, undef⟩, rfl, ((((HS.front 1 rfl).drop.front 1 rfl).drop.front 1 rfl).front 1 rfl), (by omega)⟩
    ·have hfl : st.length ≤ 24 * j := by have := of_decide_eq_false hc69; omega
     rw [pgJ_skip g st hlt hfl] at HS
     refine wp_skip ?_
     refine hK37 _ _ ?_
     refine c_region (fun ops900806 hops900805 => ?_)
     clear hops900805
     refine p_run _ (x_arith (k := .i64) (m := (j : Int)) (n := 1) .add (((j + 1 : Nat) : Int)) rfl rfl rfl (show IntKind.i64.wrap ((j : Int) + 1) = ((j + 1 : Nat) : Int) from ((wr64' (by omega)).trans (by omega))) rfl) rfl ?_
     refine p_run _ (x_move (.int .i64 ((j + 1 : Nat) : Int)) rfl rfl) rfl ?_
     refine wpList_nil ?_
     refine fr_at (l' := (.int .u64 (uv g) :: .slice A st.length c :: undef :: undef :: .pointer (some ⟨g5, 0, none⟩) :: .pointer (some ⟨g12, 0, none⟩) :: .int .i64 (j : Int) :: .slice oa49 8 nc50 :: .int .i64 0 :: .int .i64 ((32 * j : Nat) : Int) :: .int .i64 ((24 * j : Nat) : Int) :: .int .i64 ((j + 1 : Nat) : Int) :: .bool (decide ((j : Int) < 8)) :: .int .i64 (j : Int) :: .tuple [.slice oa49 8 nc50, .int .i64 0].toArray :: .int .u64 (uv g) :: .slice (some ⟨g46, 0, none⟩) 1 1 :: .tuple [.slice oa49 8 nc50, .int .i64 0].toArray :: .slice oa49 8 nc50 :: .int .i64 0 :: .int .i64 (j : Int) :: .int .i64 ((32 * j : Nat) : Int) :: .int .i64 ((32 * j : Nat) : Int) :: .slice (some ⟨g12, 0 + (32 * j : Nat), none⟩) (256 - 32 * j) (256 - 32 * j) :: .slice oa49 8 nc50 :: .int .i64 ((nums .u8 ((leB 8 (g).toNat).map bv)).length : Int) :: .int .i64 (j : Int) :: .int .i64 ((24 * j : Nat) : Int) :: .int .i64 ((24 * j : Nat) : Int) :: .slice A st.length c :: .int .i64 (st.length : Int) :: .bool (decide (((24 * j : Nat) : Int) < (st.length : Int))) :: q24.b :: q24.c :: q24.d :: q24.e :: q24.f :: q24.g :: q24.h :: q25.a :: q25.b :: .int .i64 ((j + 1 : Nat) : Int) :: undef :: [])) rfl ?_
     refine hJ27 (j + 1) _ _ ?_ ?_
     ·show 8 - (j + 1) < 8 - j; omega
     ·exact ⟨⟨.int .i64 (j : Int), .slice oa49 8 nc50, .int .i64 0, .int .i64 ((32 * j : Nat) : Int), .int .i64 ((24 * j : Nat) : Int), .bool (decide ((j : Int) < 8)), .int .i64 (j : Int), .tuple [.slice oa49 8 nc50, .int .i64 0].toArray⟩, ⟨.int .u64 (uv g), .slice (some ⟨g46, 0, none⟩) 1 1, .tuple [.slice oa49 8 nc50, .int .i64 0].toArray, .slice oa49 8 nc50, .int .i64 0, .int .i64 (j : Int), .int .i64 ((32 * j : Nat) : Int), .int .i64 ((32 * j : Nat) : Int)⟩, ⟨.slice (some ⟨g12, 0 + (32 * j : Nat), none⟩) (256 - 32 * j) (256 - 32 * j), .slice oa49 8 nc50, .int .i64 ((nums .u8 ((leB 8 (g).toNat).map bv)).length : Int), .int .i64 (j : Int), .int .i64 ((24 * j : Nat) : Int), .int .i64 ((24 * j : Nat) : Int), .slice A st.length c, .int .i64 (st.length : Int)⟩, ⟨.bool (decide (((24 * j : Nat) : Int) < (st.length : Int))), q24.b, q24.c, q24.d, q24.e, q24.f, q24.g, q24.h⟩, ⟨q25.a, q25.b, .int .i64 ((j + 1 : Nat) : Int), undef, undef, undef, undef, undef⟩, rfl, ((((HS.front 1 rfl).drop.front 1 rfl).drop.front 1 rfl).front 1 rfl), (by omega)⟩
   ·have hlt : j = 8 := by have := of_decide_eq_false hc35; omega
    subst hlt
    rw [pgJ_end] at HS
    refine wp_exit ?_
    refine hK16 _ _ ?_
    refine wp_seq_k (fun K900807 hK900808 => ?_)
    refine c_region (fun ops900810 hops900809 => ?_)
    clear hops900809
    refine p_run _ (x_loads ((nums .u8 ((pgB g st).map bv))) 256 rfl rfl (bkCells (HS.get (.head _)) 0 _ (whole _)) (by rfl) (by kernel_rfl) (by simp [List.length_map, nums_length, pgB_len g st])) rfl ?_
    refine St.stores (cs' := ((nums .u8 ((pgB g st).map bv)))) (HS.front 1 rfl) ((nums .u8 ((pgB g st).map bv))) 256 rfl rfl (nums_one _ _) (by kernel_rfl) (by simp [List.length_map, nums_length, pgB_len g st]) (by simp [List.length_map, nums_length, pgB_len g st, zlen]) (lay_all _ _ (by simp [List.length_map, nums_length, pgB_len g st, zlen])) ?_
    clear HS
    intro w900811 HS
    refine wpList_nil ?_
    refine hK900808 _ _ ?_
    refine wp_ret ?_
    try simp only [Exit.inBlock, Exit.then]
    refine c_ret (.agg ((nums .u8 ((pgB g st).map bv))).toArray) (r_c rfl rfl (run_loadVar_aggn (by rfl) ((nums .u8 ((pgB g st).map bv))) 256 (by kernel_rfl) (by simp [List.length_map, nums_length, pgB_len g st]) (bkCells (HS.get (.head _)) 0 _ (whole _)))) ?_
    exact ⟨rfl, HS.belowOf⟩
set_option maxRecDepth 10000 in
set_option maxHeartbeats 2000000 in
theorem gens_root (w : World) (q : List UInt8) (hq : q.length = 256) : Calls Try.prog 46 #[.agg ((nums .u8 (q.map bv))).toArray] w fun e w' => ∃ A c, e = .returned (.slice A 8 c) ∧ St w (fun _ => False) w' [row kU64 rfl 25 (.slice A 8 c) (hdsB q)] := by
 have HS := St.empty w
 ·refine c_enter Try.func46 rfl 18 rfl (.agg ((nums .u8 (q.map bv))).toArray :: U16r1 (undef :: [])) rfl ?_
  refine wp_seq_k (fun K1 hK2 => ?_)
  refine c_region (fun ops4 hops3 => ?_)
  clear hops3
  refine St.wBox HS (cs := ((nums .u8 (q.map bv)))) (.agg ((nums .u8 (q.map bv))).toArray) rfl rfl ?_
  clear HS
  intro g5 w6 hg7 HS
  refine p_run _ (x_assign (.slice none 0 0) rfl rfl) rfl ?_
  refine wpList_nil ?_
  refine hK2 _ _ ?_
  refine wp_seq_k (fun K8 hK9 => ?_)
  refine c_region (fun ops11 hops10 => ?_)
  clear hops10
  refine p_run _ (x_assign (.slice none 0 0) rfl rfl) rfl ?_
  refine wpList_nil ?_
  refine hK9 _ _ ?_
  refine wp_seq_k (fun K12 hK13 => ?_)
  refine wp_seq_k (fun K14 hK15 => ?_)
  refine c_region (fun ops17 hops16 => ?_)
  clear hops16
  refine p_run _ (x_move (.int .i64 0) rfl rfl) rfl ?_
  refine wpList_nil ?_
  refine fr_at (l' := (.agg ((nums .u8 (q.map bv))).toArray :: .pointer (some ⟨g5, 0, none⟩) :: .slice none 0 0 :: .slice none 0 0 :: undef :: .int .i64 0 :: U8r1 (U4r1 ([])))) rfl ?_
  refine hK15 _ _ ?_
  refine wp_block ?_
  replace HS := HS.nil kU64 rfl 25
  refine c_loop (ι := Nat × Value) (fun i_ a_ w_ => match i_ with | (j, u3) => ∃ (u4 : Value) (u6 : Value) (u7 : Value) (u8 : Value) (u9 : Value) (u10 : Value) (u11 : Value) (u12 : Value) (u13 : Value) (u14 : Value) (u15 : Value) (u16 : Value), a_ = fr (.agg ((nums .u8 (q.map bv))).toArray :: .pointer (some ⟨g5, 0, none⟩) :: .slice none 0 0 :: u3 :: u4 :: .int .i64 (j : Int) :: u6 :: u7 :: u8 :: u9 :: u10 :: u11 :: u12 :: u13 :: u14 :: u15 :: u16 :: undef :: []) ∧ St w (fun _ => False) w_ ([row kU64 rfl 25 u3 ((List.range j).map (hdB q)), blk g5 ((nums .u8 (q.map bv))) 38]) ∧ (j ≤ 8)) (fun i_ => match i_ with | (j, u3) => 8 - j) (0, .slice none 0 0) ?_ ?_
  ·exact ⟨_, _, _, _, _, _, _, _, _, _, _, _, rfl, ((HS.front 1 rfl).front 1 rfl), (by omega)⟩
  ·clear HS
   rintro ⟨j, u3⟩ a_ w20 ⟨u4, u6, u7, u8, u9, u10, u11, u12, u13, u14, u15, u16, rfl, HS, hI⟩ J18 hJ19
   have hj := hI
   refine wp_seq_k (fun K21 hK22 => ?_)
   refine c_region (fun ops24 hops23 => ?_)
   clear hops23
   refine p_run _ (x_cmp (k := .i64) (m := (j : Int)) (n := 8) .lss (decide ((j : Int) < 8)) rfl rfl rfl rfl rfl) rfl ?_
   refine wpList_nil ?_
   refine hK22 _ _ ?_
   refine wp_seq_k (fun K25 hK26 => ?_)
   refine c_cond (t := decide ((j : Int) < 8)) rfl (fun hc27 => ?_) (fun hc27 => ?_)
   ·have hlt : j < 8 := by have := of_decide_eq_true hc27; omega
    refine wp_skip ?_
    refine hK26 _ _ ?_
    refine wp_seq_k (fun K28 hK29 => ?_)
    refine wp_block ?_
    refine wp_seq_k (fun K30 hK31 => ?_)
    refine c_region (fun ops33 hops32 => ?_)
    clear hops32
    refine p_run _ (x_move (.int .i64 (j : Int)) rfl rfl) rfl ?_
    refine p_run _ (x_assign (.int .i64 (j : Int)) rfl rfl) rfl ?_
    refine wpList_nil ?_
    refine hK31 _ _ ?_
    refine c_region (fun ops35 hops34 => ?_)
    clear hops34
    refine p_run _ (x_move (u3) rfl rfl) rfl ?_
    refine p_run _ (x_move (.int .i64 (j : Int)) rfl rfl) rfl ?_
    refine p_run _ (x_arith (k := .i64) (m := (j : Int)) (n := 32) .mul (((32 * j : Nat) : Int)) rfl rfl rfl (show IntKind.i64.wrap ((j : Int) * 32) = ((32 * j : Nat) : Int) from ((wr64' (by omega)).trans (by omega))) rfl) rfl ?_
    refine p_run (.slice (some ⟨g5, 0 + (32 * j : Nat), none⟩) (256 - 32 * j) (256 - 32 * j)) ((x_sliceArr (sz := 1) (L := (some (.tmp 10))) (H := none) (lo := (32 * j : Nat)) (hi := 256) ⟨g5, 0 + (32 * j : Nat), none⟩ rfl rfl Try.underlying38 (by kernel_rfl) ⟨_, _, rfl, (by omega), rfl⟩ rfl (by omega) (by omega) (by rw [if_neg (by omega), add_mk, Nat.mul_one])).trans (by first | rfl | (rw [show 256 - (32 * j : Nat) = 256 - 32 * j from (by omega), show 256 - (32 * j : Nat) = 256 - 32 * j from (by omega)]))) rfl ?_
    refine w_call [.slice (some ⟨g5, 0 + (32 * j : Nat), none⟩) (256 - 32 * j) (256 - 32 * j)] Try.func54 (by kernel_rfl) (by rfl) rfl ?_
    refine (St.newR0 HS _ _ _ (q.drop (32 * j)) (by rw [List.length_drop, hq]) (by have h := blk_from (k := 0 + 32 * j) (n := 256) (HS.get (.tail _ (.head _))) (by omega); rw [Nat.zero_add, List.take_of_length_le (by rw [List.length_drop]; omega)] at h; rw [Nat.zero_add]; exact h) (by rw [List.length_drop]; omega) (by rw [List.length_drop]; omega)).mono ?_
    clear HS
    rintro e w38 ⟨g36, g37, rfl, HS⟩
    refine ⟨_, rfl, ?_⟩
    refine w_call [.pointer (some ⟨g37, 0, none⟩), .int .i64 8] Try.func55 (by kernel_rfl) (by rfl) rfl ?_
    refine (St.num HS 8).mono ?_
    clear HS
    rintro e w39 ⟨he_, HS⟩
    rw [rn_hd hq hlt] at he_
    subst he_
    refine ⟨_, rfl, ?_⟩
    refine St.wLit1 HS [.int .u64 (uv (hdB q j))] 1 (.int .u64 0) (.int .u64 (uv (hdB q j))) Try.underlying93 (by kernel_rfl) (by decide) rfl rfl rfl ?_
    clear HS
    intro g40 w41 hg42 HS
    replace HS := (HS.front 2 rfl)
    refine St.wAppend HS (.int .u64 0) 8 Try.underlying93 (by kernel_rfl) rfl (by decide) (by decide) [hdB q j] _ _ _ rfl rfl (ru_one (HS.get (.tail _ (.head _)))) (fun _ _ h => h) (by simp only [List.length_map, List.length_range, List.length_cons, List.length_nil]; omega) ?_
    clear HS
    intro v43 w44 HS
    refine p_run _ (x_assign (v43) rfl rfl) rfl ?_
    refine wpList_nil ?_
    refine hK29 _ _ ?_
    refine c_region (fun ops46 hops45 => ?_)
    clear hops45
    refine p_run _ (x_arith (k := .i64) (m := (j : Int)) (n := 1) .add (((j + 1 : Nat) : Int)) rfl rfl rfl (show IntKind.i64.wrap ((j : Int) + 1) = ((j + 1 : Nat) : Int) from ((wr64' (by omega)).trans (by omega))) rfl) rfl ?_
    refine p_run (l' := (.agg ((nums .u8 (q.map bv))).toArray :: .pointer (some ⟨g5, 0, none⟩) :: .slice none 0 0 :: v43 :: .int .i64 (j : Int) :: .int .i64 ((j + 1 : Nat) : Int) :: .bool (decide ((j : Int) < 8)) :: .int .i64 (j : Int) :: u3 :: .int .i64 (j : Int) :: .int .i64 ((32 * j : Nat) : Int) :: .slice (some ⟨g5, 0 + (32 * j : Nat), none⟩) (256 - 32 * j) (256 - 32 * j) :: .pointer (some ⟨g37, 0, none⟩) :: .int .u64 (uv (hdB q j)) :: .slice (some ⟨g40, 0, none⟩) 1 1 :: v43 :: .int .i64 ((j + 1 : Nat) : Int) :: undef :: [])) _ (x_move (.int .i64 ((j + 1 : Nat) : Int)) rfl rfl) rfl ?_
    refine wpList_nil ?_
    rw [show (List.range j).map (hdB q) ++ [hdB q j] = (List.range (j + 1)).map (hdB q) from by rw [List.range_succ, List.map_append]; rfl] at HS
    refine hJ19 (j + 1, v43) _ _ ?_ ?_
    ·show 8 - (j + 1) < 8 - j; omega
    ·exact ⟨_, _, _, _, _, _, _, _, _, _, _, _, rfl, ((((HS.front 1 rfl).drop.front 1 rfl).drop.front 1 rfl).front 1 rfl), (by omega)⟩
   ·have hlt : j = 8 := by have := of_decide_eq_false hc27; omega
    subst hlt
    refine wp_exit ?_
    refine hK13 _ _ ?_
    refine wp_seq_k (fun K47 hK48 => ?_)
    refine c_region (fun ops50 hops49 => ?_)
    clear hops49
    refine p_run _ (x_move (u3) rfl rfl) rfl ?_
    refine p_run _ (x_assign (u3) rfl rfl) rfl ?_
    refine wpList_nil ?_
    refine hK48 _ _ ?_
    refine wp_ret ?_
    try simp only [Exit.inBlock, Exit.then]
    refine c_ret (u3) (r_tmp rfl rfl) ?_
    obtain ⟨A, c, hv, -, -⟩ := row_reads (HS.get (.head _))
    subst hv
    exact ⟨A, c, rfl, (HS.front 1 rfl).drop⟩
end Go.Proofs.Ytenlkobjldhfgaa
