/- out.put; label.Put. -/
import Derived.Test.YtkiiangookibnaaZRecordTellsRk1
set_option linter.unusedVariables false
set_option linter.unusedSimpArgs false
namespace Go.Proofs.Ytkiiangookibnaa
open Go.RowKit Go.Proofs.YtkiiangookibnaaW.PrintWords Go.Proofs.YtkiiangookibnaaW.PrintLast
abbrev U4f3 (l : List Value) : List Value := undef :: undef :: undef :: undef :: l
abbrev U8f3 (l : List Value) : List Value := U4f3 (U4f3 l)
abbrev U16f3 (l : List Value) : List Value := U8f3 (U8f3 l)
theorem put_ok {m : Nat} (hm : wideB (m : Int) = true) {xs : List UInt8} {l : List UInt64} (hf : l.all (fits m) = true) : putBytes xs (m : Int) l = xs ++ packs m l ∧ putErr (m : Int) l = 0 := by
  have h : putOk (m : Int) l = true := by
    unfold putOk
    rw [hm, Int.toNat_natCast, hf]
    rfl
  unfold putBytes putErr
  rw [if_pos h, if_pos h, Int.toNat_natCast]
  exact ⟨rfl, rfl⟩
section
variable {w0 W : World} {F : Nat → Prop} {L : List Res} {v : Value} {xs : List UInt8} {O : Nat}
theorem putR_any (HS : St w0 F W (row kByte rfl 5 v xs :: L)) {m : Nat} (hm : wideB (m : Int) = true) {A : Option Addr} {cl : Nat} {l : List UInt64} (hL : Ru W A l) (hf : l.all (fits m) = true) (hx : xs.length + 8 * l.length ≤ 100000) :
    Calls Try.prog 47 #[v, .int .i64 (m : Int), .slice A l.length cl] W fun e w' => ∃ v', e = .returned (.tuple #[v', .int .i64 0]) ∧ St w0 F w' (row kByte rfl 5 v' (xs ++ packs m l) :: row kByte rfl 5 v xs :: L) := by
  obtain ⟨A0, c0, rfl, hsl⟩ := Own.sl (row_own HS.hs.head)
  obtain ⟨p1, p2⟩ := put_ok hm (xs := xs) hf
  refine (put_any A0 c0 xs (m : Int) A cl l W hsl hL (by omega)).mono ?_
  rintro e w' ⟨A', c', rfl, -, ho, hb⟩
  rw [p1] at ho ⊢
  rw [p2]
  exact ⟨_, rfl, HS.made hb ho⟩
end
section
variable {w0 W : World} {F : Nat → Prop} {L : List Res} {v : Value} {xs : List UInt8} {O : Nat}
end
abbrev Lb : Type := Int × Int
abbrev lbC (x : Lb) : List Value := [.int .u32 x.1, .int .u32 x.2]
def lbP (x : Lb) (cs : List Value) : Prop := cs = lbC x
def kLb : Kd Lb := flatK 2 lbP (fun x cs h => by rw [h]; rfl) (fun x cs h u hu => by
  rw [h] at hu
  simp only [lbC, List.mem_cons, List.not_mem_nil, or_false] at hu
  rcases hu with rfl | rfl <;> rfl)
theorem lb_get {w : World} {A : Option Addr} {n : Nat} {ps : List Lb} (h : kLb.C w A n ps) (j : Nat) (hj : j < ps.length) : ∃ ad x, A = some ad ∧ ps[j]? = some x ∧ ∀ i u, (lbC x)[i]? = some u → w.cell? ((ad.add (j * 2)).add i) = some u := by
  obtain ⟨ad, e, hc⟩ := h.2.2 (by have := h.1; omega)
  obtain ⟨c, hs, hr, hcell⟩ := hc j _ (List.getElem?_eq_getElem hj)
  refine ⟨ad, ps[j], e, List.getElem?_eq_getElem hj, fun i u hu => ?_⟩
  rw [add_add]
  have hr' : c = lbC ps[j] := hr
  exact hcell i u (by rw [hr']; exact hu)
def lbB (x : Lb) : List UInt8 := nB 4 x.1 ++ nB 4 x.2
theorem lbB_len (x : Lb) : (lbB x).length = 8 := by unfold lbB; simp [nB_len]
theorem u32_conv {x : Int} (h : 0 ≤ x) (h2 : x < 18446744073709551616) : IntKind.u64.wrap x = uv (UInt64.ofNat x.toNat) := by
  unfold uv
  rw [IntKind.wrap_u64, UInt64.toNat_ofNat']
  omega
theorem nat_of {x : Int} (h : 0 ≤ x) (h2 : x < 18446744073709551616) : (UInt64.ofNat x.toNat).toNat = x.toNat := by rw [UInt64.toNat_ofNat']; omega
theorem fit1 {W : Nat} {x : Int} (h : 0 ≤ x) (h2 : x < 18446744073709551616) (h3 : x.toNat < 256 ^ W) : fits W (UInt64.ofNat x.toNat) = true := by unfold fits; rw [nat_of h h2]; exact decide_eq_true h3
theorem pk_cons (W : Nat) {x : Int} (h : 0 ≤ x) (h2 : x < 18446744073709551616) (l : List UInt64) : packs W (UInt64.ofNat x.toNat :: l) = nB W x ++ packs W l := by
  unfold packs nB
  rw [List.map_cons, List.flatten_cons, nat_of h h2]
theorem pk_nil (W : Nat) : packs W [] = [] := rfl
theorem ru_lit {w : World} {q t n : Nat} {l : List UInt64} (h : (blk q (l.map fun g => Value.int .u64 (uv g)) t).holds w) (hn : n = l.length) (hs : l.length ≤ 1000) : kU64.C w (some ⟨q, 0, none⟩) n l := by
  subst hn
  refine ⟨rfl, by omega, fun _ => ⟨_, rfl, fun j p hj => ⟨[.int .u64 (uv p)], rfl, rfl, fun i u hu => ?_⟩⟩⟩
  have hi : i = 0 := by
    rcases i with _ | i
    · rfl
    · simp at hu
  subst hi
  obtain rfl : Value.int .u64 (uv p) = u := by simpa using hu
  have h1 := bkCell h j (.int .u64 (uv p)) (by rw [List.getElem?_map, hj]; rfl)
  have hsz : kU64.sz = 1 := rfl
  rw [hsz, Nat.mul_one, Nat.add_zero, add_mk, Nat.zero_add]
  exact h1
theorem lb_snoc {l : List Lb} {j : Nat} {x : Lb} (hx : l[j]? = some x) : (l.take j).flatMap lbB ++ (nB 4 x.1 ++ (nB 4 x.2 ++ [])) = (l.take (j + 1)).flatMap lbB := by
  obtain ⟨hj, rfl⟩ := List.getElem?_eq_some_iff.1 hx
  rw [List.take_succ_eq_append_getElem hj, List.flatMap_append, List.append_nil]
  simp [lbB]
theorem lb_le (l : List Lb) (j : Nat) : ((l.take j).flatMap lbB).length ≤ 8 * l.length := by
  rw [flat_len (n := 8) _ (fun x _ => lbB_len x), List.length_take]
  omega
set_option maxRecDepth 10000 in
set_option maxHeartbeats 2000000 in
theorem lput_any (w : World) (A : Option Addr) (c : Nat) (xs : List UInt8) (hr : Sl w A c xs) (B : Option Addr) (d : Nat) (l : List Lb) (hB : kLb.C w B l.length l) (hu : ∀ x ∈ l, u32 x.1 ∧ u32 x.2) (hx : xs.length + 16 * l.length ≤ 90000) : Calls Try.prog 48 #[.slice A xs.length c, .slice B l.length d] w fun e w' => ∃ v, e = .returned v ∧ St w (fun _ => False) w' [row kByte rfl 5 v (xs ++ l.flatMap lbB)] := by
  have HS := St.empty w
  · skip
    refine c_enter Try.func48 rfl 30 rfl (.slice A xs.length c :: .slice B l.length d :: U16f3 (U8f3 (U4f3 ([])))) rfl ?_
    refine wp_seq_k (fun K1 hK2 => ?_)
    refine c_region (fun ops4 hops3 => ?_)
    clear hops3
    refine p_run _ (x_assign (.slice none 0 0) rfl rfl) rfl ?_
    refine wpList_nil ?_
    refine hK2 _ _ ?_
    refine wp_seq_k (fun K5 hK6 => ?_)
    refine c_region (fun ops8 hops7 => ?_)
    clear hops7
    refine p_run _ (x_move (.slice A xs.length c) rfl rfl) rfl ?_
    refine w_call [.slice A xs.length c] Try.func49 (by kernel_rfl) (by rfl) rfl ?_
    refine (clone_any A c xs _ (hr.below HS.belowOf).rd (hr.below HS.belowOf).nil (by omega)).mono ?_
    rintro e w10 ⟨v9, rfl, ho_, hb_⟩
    replace HS := HS.made (hE := rfl) hb_ ho_
    clear hb_ ho_
    refine ⟨_, rfl, ?_⟩
    refine p_run _ (x_assign (v9) rfl rfl) rfl ?_
    refine wpList_nil ?_
    refine hK6 _ _ ?_
    refine wp_seq_k (fun K11 hK12 => ?_)
    refine wp_seq_k (fun K13 hK14 => ?_)
    refine c_region (fun ops16 hops15 => ?_)
    clear hops15
    refine p_run _ (x_move (.slice B l.length d) rfl rfl) rfl ?_
    refine p_run _ (x_len rfl rfl Try.underlying81) rfl ?_
    refine p_run (l' := (.slice A xs.length c :: .slice B l.length d :: undef :: undef :: .slice none 0 0 :: v9 :: undef :: undef :: .slice A xs.length c :: v9 :: .slice B l.length d :: .int .i64 (l.length : Int) :: .int .i64 0 :: U16f3 (undef :: []))) _ (x_move (.int .i64 0) rfl rfl) rfl ?_
    refine wpList_nil ?_
    refine hK14 _ _ ?_
    refine wp_block ?_
    refine c_loop (ι := Nat × Value) (fun i_ a_ w_ => match i_ with | (j, u5) => ∃ (u7 : Value) (u13 : Value) (u14 : Value) (u15 : Value) (u16 : Value) (u17 : Value) (u18 : Value) (u19 : Value) (u20 : Value) (u21 : Value) (u22 : Value) (u23 : Value) (u24 : Value) (u25 : Value) (u26 : Value) (u27 : Value) (u28 : Value), a_ = fr (.slice A xs.length c :: .slice B l.length d :: undef :: undef :: .slice none 0 0 :: u5 :: undef :: u7 :: .slice A xs.length c :: v9 :: .slice B l.length d :: .int .i64 (l.length : Int) :: .int .i64 (j : Int) :: u13 :: u14 :: u15 :: u16 :: u17 :: u18 :: u19 :: u20 :: u21 :: u22 :: u23 :: u24 :: u25 :: u26 :: u27 :: u28 :: undef :: []) ∧ St w (fun _ => False) w_ ([row kByte rfl 5 u5 (xs ++ (l.take j).flatMap lbB)]) ∧ (j ≤ l.length)) (fun i_ => match i_ with | (j, u5) => l.length - j) (0, v9) ?_ ?_
    · exact ⟨_, _, _, _, _, _, _, _, _, _, _, _, _, _, _, _, _, rfl, (by rw [List.take_zero, List.flatMap_nil, List.append_nil]; exact HS), (by omega)⟩
    · clear HS
      rintro ⟨j, u5⟩ a_ w19 ⟨u7, u13, u14, u15, u16, u17, u18, u19, u20, u21, u22, u23, u24, u25, u26, u27, u28, rfl, HS, hI⟩ J17 hJ18
      have hjl := hI
      refine wp_seq_k (fun K20 hK21 => ?_)
      refine c_region (fun ops23 hops22 => ?_)
      clear hops22
      refine p_run _ (x_cmp (k := .i64) (m := (j : Int)) (n := (l.length : Int)) .lss (decide ((j : Int) < (l.length : Int))) rfl rfl rfl rfl rfl) rfl ?_
      refine wpList_nil ?_
      refine hK21 _ _ ?_
      refine wp_seq_k (fun K24 hK25 => ?_)
      refine c_cond (t := decide ((j : Int) < (l.length : Int))) rfl (fun hc26 => ?_) (fun hc26 => ?_)
      · have hlt : j < l.length := by have := of_decide_eq_true hc26; omega
        obtain ⟨ad, x, rfl, hx, hcell⟩ := lb_get (Kd.C_below hB HS.belowOf) j hlt
        obtain ⟨⟨u1, u2⟩, u3, u4⟩ := hu x (List.mem_of_getElem? hx)
        have hle := lb_le l j
        refine wp_skip ?_
        refine hK25 _ _ ?_
        refine wp_seq_k (fun K27 hK28 => ?_)
        refine wp_block ?_
        refine wp_seq_k (fun K29 hK30 => ?_)
        refine c_region (fun ops32 hops31 => ?_)
        clear hops31
        refine p_run _ (x_index (A := ad) (j := j * 2) (sz := 2) rfl rfl rfl Try.underlying81 (by kernel_rfl) (by omega) rfl) rfl ?_
        refine p_run _ (x_loads [.int .u32 x.1, .int .u32 x.2] 2 rfl rfl hcell (by rfl) (by kernel_rfl) rfl) rfl ?_
        refine St.wAlloc HS (cs := [.int .u32 0, .int .u32 0]) (.agg [.int .u32 0, .int .u32 0].toArray) (by kernel_rfl) rfl ?_
        clear HS
        intro g33 w34 hg35 HS
        refine St.stores (cs' := [.int .u32 x.1, .int .u32 x.2]) HS [.int .u32 x.1, .int .u32 x.2] 2 rfl rfl (by rfl) (by kernel_rfl) rfl (by simp) rfl ?_
        clear HS
        intro w36 HS
        refine wpList_nil ?_
        refine hK30 _ _ ?_
        refine c_region (fun ops38 hops37 => ?_)
        clear hops37
        refine p_run _ (x_move (u5) rfl rfl) rfl ?_
        refine p_run _ (x_field (j := 0) _ _ rfl rfl Try.underlying28 rfl (by rfl) rfl) rfl ?_
        refine p_run (l' := (.slice A xs.length c :: .slice (some ad) l.length d :: undef :: undef :: .slice none 0 0 :: u5 :: undef :: .pointer (some ⟨g33, 0, none⟩) :: .slice A xs.length c :: v9 :: .slice (some ad) l.length d :: .int .i64 (l.length : Int) :: .int .i64 (j : Int) :: .bool (decide ((j : Int) < (l.length : Int))) :: .pointer (some ((ad).add (j * 2))) :: .agg ([.int .u32 x.1, .int .u32 x.2] : List Value).toArray :: u16 :: u5 :: .pointer (some ⟨g33, 0, none⟩) :: .int .u32 x.1 :: u20 :: u21 :: u22 :: u23 :: u24 :: u25 :: u26 :: u27 :: u28 :: undef :: [])) _ (x_load (.int .u32 x.1) rfl rfl (bkCell (HS.get (.head _)) 0 _ rfl) (by rfl)) rfl ?_
        refine p_run _ (x_conv (k := .u32) (m := x.1) .u64 ((uv (UInt64.ofNat x.1.toNat))) rfl (by rw [Try.underlying26]; rfl) Try.underlying30 rfl (u32_conv u1 (by omega))) rfl ?_
        refine p_run _ (x_field (j := 1) _ _ rfl rfl Try.underlying28 rfl (by rfl) rfl) rfl ?_
        refine p_run _ (x_load (.int .u32 x.2) rfl rfl (bkCell (HS.get (.head _)) 1 _ rfl) (by rfl)) rfl ?_
        refine p_run _ (x_conv (k := .u32) (m := x.2) .u64 ((uv (UInt64.ofNat x.2.toNat))) rfl (by rw [Try.underlying26]; rfl) Try.underlying30 rfl (u32_conv u3 (by omega))) rfl ?_
        refine St.wLit HS (cs := [.int .u64 (uv (UInt64.ofNat x.1.toNat)), .int .u64 (uv (UInt64.ofNat x.2.toNat))]) 1 (.int .u64 0) Try.underlying87 (by kernel_rfl) (by decide) (by kernel_rfl) ?_
        clear HS
        intro g39 w40 hg41 HS
        refine w_call [u5, .int .i64 4, .slice (some ⟨g39, 0, none⟩) 2 2] Try.func47 (by kernel_rfl) (by rfl) rfl ?_
        replace HS := (HS.front 2 rfl)
        refine (putR_any (m := 4) HS (by decide) (l := [UInt64.ofNat x.1.toNat, UInt64.ofNat x.2.toNat]) (ru_lit (l := [UInt64.ofNat x.1.toNat, UInt64.ofNat x.2.toNat]) (HS.get (.tail _ (.head _))) rfl (by simp)) (by rw [List.all_cons, List.all_cons, fit1 u1 (by omega) (by omega), fit1 u3 (by omega) (by omega)]; rfl) (by simp only [List.length_append, List.length_cons, List.length_nil]; omega)).mono ?_
        clear HS
        rintro e w43 ⟨v42, rfl, HS⟩
        rw [pk_cons 4 u1 (by omega), pk_cons 4 u3 (by omega), pk_nil, List.append_assoc, lb_snoc hx] at HS
        refine ⟨_, rfl, ?_⟩
        refine p_run (l' := (.slice A xs.length c :: .slice (some ad) l.length d :: undef :: undef :: .slice none 0 0 :: u5 :: undef :: .pointer (some ⟨g33, 0, none⟩) :: .slice A xs.length c :: v9 :: .slice (some ad) l.length d :: .int .i64 (l.length : Int) :: .int .i64 (j : Int) :: .bool (decide ((j : Int) < (l.length : Int))) :: .pointer (some ((ad).add (j * 2))) :: .agg ([.int .u32 x.1, .int .u32 x.2] : List Value).toArray :: .tuple [v42, .int .i64 0].toArray :: u5 :: .pointer (some ⟨g33, 0, none⟩) :: .int .u32 x.1 :: .int .u64 (uv (UInt64.ofNat x.1.toNat)) :: .pointer (some ⟨g33, 1, none⟩) :: .int .u32 x.2 :: .int .u64 (uv (UInt64.ofNat x.2.toNat)) :: .slice (some ⟨g39, 0, none⟩) 2 2 :: .tuple [v42, .int .i64 0].toArray :: u26 :: u27 :: u28 :: undef :: [])) _ (x_move (.tuple [v42, .int .i64 0].toArray) rfl rfl) rfl ?_
        refine p_run _ (x_extract (vs := [v42, .int .i64 0]) 0 (v42) rfl rfl rfl) rfl ?_
        refine p_run _ (x_extract (vs := [v42, .int .i64 0]) 1 (.int .i64 0) rfl rfl rfl) rfl ?_
        refine p_run _ (x_assign (v42) rfl rfl) rfl ?_
        refine wpList_nil ?_
        refine hK28 _ _ ?_
        refine c_region (fun ops45 hops44 => ?_)
        clear hops44
        refine p_run _ (x_arith (k := .i64) (m := (j : Int)) (n := 1) .add (((j + 1 : Nat) : Int)) rfl rfl rfl (show IntKind.i64.wrap ((j : Int) + 1) = ((j + 1 : Nat) : Int) from ((wr64' (by omega)).trans (by omega))) rfl) rfl ?_
        refine p_run _ (x_move (.int .i64 ((j + 1 : Nat) : Int)) rfl rfl) rfl ?_
        refine wpList_nil ?_
        refine fr_at (l' := (.slice A xs.length c :: .slice (some ad) l.length d :: undef :: undef :: .slice none 0 0 :: v42 :: undef :: .pointer (some ⟨g33, 0, none⟩) :: .slice A xs.length c :: v9 :: .slice (some ad) l.length d :: .int .i64 (l.length : Int) :: .int .i64 ((j + 1 : Nat) : Int) :: .bool (decide ((j : Int) < (l.length : Int))) :: .pointer (some ((ad).add (j * 2))) :: .agg ([.int .u32 x.1, .int .u32 x.2] : List Value).toArray :: .tuple [v42, .int .i64 0].toArray :: u5 :: .pointer (some ⟨g33, 0, none⟩) :: .int .u32 x.1 :: .int .u64 (uv (UInt64.ofNat x.1.toNat)) :: .pointer (some ⟨g33, 1, none⟩) :: .int .u32 x.2 :: .int .u64 (uv (UInt64.ofNat x.2.toNat)) :: .slice (some ⟨g39, 0, none⟩) 2 2 :: .tuple [v42, .int .i64 0].toArray :: v42 :: .int .i64 0 :: .int .i64 ((j + 1 : Nat) : Int) :: undef :: [])) rfl ?_
        refine hJ18 (j + 1, v42) _ _ ?_ ?_
        · show l.length - (j + 1) < l.length - j; omega
        · exact ⟨_, _, _, _, _, _, _, _, _, _, _, _, _, _, _, _, _, rfl, (((HS.front 1 rfl).drop.front 1 rfl).drop.front 1 rfl).drop, (by omega)⟩
      · have hlt : j = l.length := by have := of_decide_eq_false hc26; omega
        subst hlt
        rw [List.take_length] at HS
        refine wp_exit ?_
        refine hK12 _ _ ?_
        refine wp_seq_k (fun K46 hK47 => ?_)
        refine c_region (fun ops49 hops48 => ?_)
        clear hops48
        refine p_run _ (x_move (u5) rfl rfl) rfl ?_
        refine p_run _ (x_assign (u5) rfl rfl) rfl ?_
        refine wpList_nil ?_
        refine hK47 _ _ ?_
        refine wp_ret ?_
        try simp only [Exit.inBlock, Exit.then]
        refine c_ret (u5) (r_tmp rfl rfl) ?_
        exact ⟨_, rfl, HS⟩
end Go.Proofs.Ytkiiangookibnaa
