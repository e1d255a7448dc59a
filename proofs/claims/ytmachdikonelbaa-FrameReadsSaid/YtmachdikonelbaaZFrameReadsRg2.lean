/- The document's Put of labels, Bytes of messages. -/
import Derived.Test.YtmachdikonelbaaZFrameReadsRg1
import Derived.Test.YtmachdikonelbaaZFrameReadsRby
import Derived.Test.YtmachdikonelbaaZFrameReadsFr4
set_option linter.unusedVariables false
set_option linter.unusedSimpArgs false
namespace Go.Proofs.Ytmachdikonelbaa
open Go.RowKit Go.Proofs.YtmachdikonelbaaW.PrintWords Go.Proofs.YtmachdikonelbaaW.PrintLast Crc
abbrev U4g2 (l : List Value) : List Value := undef :: undef :: undef :: undef :: l
abbrev U8g2 (l : List Value) : List Value := U4g2 (U4g2 l)
abbrev U16g2 (l : List Value) : List Value := U8g2 (U8g2 l)
abbrev U32g2 (l : List Value) : List Value := U16g2 (U16g2 l)
abbrev U64g2 (l : List Value) : List Value := U32g2 (U32g2 l)
theorem fsB_cons (W : Nat) {x : Int} (h : 0 ≤ x) (h2 : x < 18446744073709551616) (l : List (Nat × UInt64)) : fsB ((W, UInt64.ofNat x.toNat) :: l) = nB W x ++ fsB l := by
  unfold fsB nB
  rw [List.flatMap_cons, nat_of h h2]
theorem fsB_nil : fsB [] = [] := rfl
theorem fw_nil : ∀ f ∈ ([] : List (Nat × UInt64)), f.1 ≤ 8 := fun f h => by cases h
theorem fw_cons {a : Nat} {x : UInt64} {l : List (Nat × UInt64)} (h : a ≤ 8) (hl : ∀ f ∈ l, f.1 ≤ 8) : ∀ f ∈ (a, x) :: l, f.1 ≤ 8 := fun f hf => by
  rcases List.mem_cons.1 hf with rfl | hf
  · exact h
  · exact hl f hf
theorem lb_snoc2 {l : List Lb} {j : Nat} {x : Lb} (hx : l[j]? = some x) (xs : List UInt8) : xs ++ (l.take j).flatMap lbB ++ (nB 4 x.1 ++ nB 4 x.2) = xs ++ (l.take (j + 1)).flatMap lbB := by
  have := lb_snoc hx
  rw [List.append_nil] at this
  rw [List.append_assoc, this]
theorem nB1 {x : Int} (h : 0 ≤ x) (h2 : x < 256) : nB 1 x = [UInt8.ofNat x.toNat] := by
  unfold nB leB leB
  rw [Nat.mod_eq_of_lt (by omega)]
theorem u8_conv {x : Int} (h : 0 ≤ x) (h2 : x < 256) : IntKind.u8.wrap x = bv (UInt8.ofNat x.toNat) := by
  unfold bv
  rw [IntKind.wrap_u8, UInt8.toNat_ofNat']
  omega
theorem nB1' {x : Int} (h : 0 ≤ x) (h2 : x < 256) (l : List UInt8) : UInt8.ofNat x.toNat :: l = nB 1 x ++ l := by rw [nB1 h h2]; rfl
theorem h3_eq (m : Mg) : nB 1 m.k ++ (nB 4 m.e ++ nB 8 m.s) = h3 m := by unfold h3 h2 h1; rw [List.append_assoc]
set_option maxRecDepth 10000 in
set_option maxHeartbeats 2000000 in
theorem r3put_any (w : World) (A : Option Addr) (c : Nat) (xs : List UInt8) (hr : Sl w A c xs) (B : Option Addr) (d : Nat) (l : List Lb) (hB : kLb.C w B l.length l) (hu : ∀ x ∈ l, u32 x.1 ∧ u32 x.2) (hx : xs.length + 16 * l.length ≤ 90000) : Calls Try.prog 27 #[.slice A xs.length c, .slice B l.length d] w fun e w' => ∃ v, e = .returned v ∧ St w (fun _ => False) w' [row kByte rfl 5 v (xs ++ l.flatMap lbB)] := by
  have HS := St.empty w
  · skip
    refine c_enter Try.func27 rfl 31 rfl (.slice A xs.length c :: .slice B l.length d :: U16g2 (U8g2 (U4g2 (undef :: [])))) rfl ?_
    refine wp_seq_k (fun K1 hK2 => ?_)
    refine c_region (fun ops4 hops3 => ?_)
    clear hops3
    refine p_run _ (x_assign (.slice none 0 0) rfl rfl) rfl ?_
    refine wpList_nil ?_
    refine hK2 _ _ ?_
    refine wp_seq_k (fun K5 hK6 => ?_)
    refine c_region (fun ops8 hops7 => ?_)
    clear hops7
    refine St.wLit0 HS kByte rfl 1 (.int .u8 0) Try.underlying22 (by kernel_rfl) ?_
    clear HS
    intro v9 w10 HS
    refine p_run _ (x_move (.slice A xs.length c) rfl rfl) rfl ?_
    refine St.wAppend HS (.int .u8 0) 1 Try.underlying22 (by kernel_rfl) rfl (by decide) (by decide) xs _ _ _ rfl rfl (hr.below HS.belowOf).rd (fun _ _ h => h) (by simp only [List.length_nil]; omega) ?_
    clear HS
    intro v11 w12 HS
    refine p_run _ (x_assign (v11) rfl rfl) rfl ?_
    refine wpList_nil ?_
    refine fr_at (l' := (.slice A xs.length c :: .slice B l.length d :: undef :: undef :: .slice none 0 0 :: v11 :: undef :: undef :: v9 :: .slice A xs.length c :: v11 :: U16g2 (U4g2 ([])))) rfl ?_
    refine hK6 _ _ ?_
    refine wp_seq_k (fun K13 hK14 => ?_)
    refine wp_seq_k (fun K15 hK16 => ?_)
    rw [List.nil_append] at HS
    · skip
      refine c_region (fun ops18 hops17 => ?_)
      clear hops17
      refine p_run _ (x_move (.slice B l.length d) rfl rfl) rfl ?_
      refine p_run _ (x_len rfl rfl Try.underlying68) rfl ?_
      refine p_run _ (x_move (.int .i64 0) rfl rfl) rfl ?_
      refine wpList_nil ?_
      refine fr_at (l' := (.slice A xs.length c :: .slice B l.length d :: undef :: undef :: .slice none 0 0 :: v11 :: undef :: undef :: v9 :: .slice A xs.length c :: v11 :: .slice B l.length d :: .int .i64 (l.length : Int) :: .int .i64 0 :: U16g2 (undef :: []))) rfl ?_
      refine hK16 _ _ ?_
      refine wp_block ?_
      refine c_loop (ι := Nat × Value) (fun i_ a_ w_ => match i_ with | (j, u5) => ∃ (u7 : Value) (u14 : Value) (u15 : Value) (u16 : Value) (u17 : Value) (u18 : Value) (u19 : Value) (u20 : Value) (u21 : Value) (u22 : Value) (u23 : Value) (u24 : Value) (u25 : Value) (u26 : Value) (u27 : Value) (u28 : Value) (u29 : Value), a_ = fr (.slice A xs.length c :: .slice B l.length d :: undef :: undef :: .slice none 0 0 :: u5 :: undef :: u7 :: v9 :: .slice A xs.length c :: v11 :: .slice B l.length d :: .int .i64 (l.length : Int) :: .int .i64 (j : Int) :: u14 :: u15 :: u16 :: u17 :: u18 :: u19 :: u20 :: u21 :: u22 :: u23 :: u24 :: u25 :: u26 :: u27 :: u28 :: u29 :: undef :: []) ∧ St w (fun _ => False) w_ ([row kByte rfl 5 u5 (xs ++ (l.take j).flatMap lbB)]) ∧ (j ≤ l.length)) (fun i_ => match i_ with | (j, u5) => l.length - j) (0, v11) ?_ ?_
      · exact ⟨_, _, _, _, _, _, _, _, _, _, _, _, _, _, _, _, _, rfl, (by rw [List.take_zero, List.flatMap_nil, List.append_nil]; exact HS), (by omega)⟩
      · clear HS
        rintro ⟨j, u5⟩ a_ w21 ⟨u7, u14, u15, u16, u17, u18, u19, u20, u21, u22, u23, u24, u25, u26, u27, u28, u29, rfl, HS, hI⟩ J19 hJ20
        have hjl := hI
        refine wp_seq_k (fun K22 hK23 => ?_)
        refine c_region (fun ops25 hops24 => ?_)
        clear hops24
        refine p_run _ (x_cmp (k := .i64) (m := (j : Int)) (n := (l.length : Int)) .lss (decide ((j : Int) < (l.length : Int))) rfl rfl rfl rfl rfl) rfl ?_
        refine wpList_nil ?_
        refine hK23 _ _ ?_
        refine wp_seq_k (fun K26 hK27 => ?_)
        refine c_cond (t := decide ((j : Int) < (l.length : Int))) rfl (fun hc28 => ?_) (fun hc28 => ?_)
        · have hlt : j < l.length := by have := of_decide_eq_true hc28; omega
          obtain ⟨ad, x, rfl, hx, hcell⟩ := lb_get (Kd.C_below hB HS.belowOf) j hlt
          obtain ⟨⟨u1, u2⟩, u3, u4⟩ := hu x (List.mem_of_getElem? hx)
          have hle := lb_le l j
          refine wp_skip ?_
          refine hK27 _ _ ?_
          refine wp_seq_k (fun K29 hK30 => ?_)
          refine wp_block ?_
          refine wp_seq_k (fun K31 hK32 => ?_)
          refine c_region (fun ops34 hops33 => ?_)
          clear hops33
          refine p_run _ (x_index (A := ad) (j := j * 2) (sz := 2) rfl rfl rfl Try.underlying68 (by kernel_rfl) (by omega) rfl) rfl ?_
          refine p_run _ (x_loads [.int .u32 x.1, .int .u32 x.2] 2 rfl rfl hcell (by rfl) (by kernel_rfl) rfl) rfl ?_
          refine St.wAlloc HS (cs := [.int .u32 0, .int .u32 0]) (.agg [.int .u32 0, .int .u32 0].toArray) (by kernel_rfl) rfl ?_
          clear HS
          intro g35 w36 hg37 HS
          refine St.stores (cs' := [.int .u32 x.1, .int .u32 x.2]) HS [.int .u32 x.1, .int .u32 x.2] 2 rfl rfl (by rfl) (by kernel_rfl) rfl (by simp) rfl ?_
          clear HS
          intro w38 HS
          refine wpList_nil ?_
          refine fr_at (l' := (.slice A xs.length c :: .slice (some ad) l.length d :: undef :: undef :: .slice none 0 0 :: u5 :: undef :: .pointer (some ⟨g35, 0, none⟩) :: v9 :: .slice A xs.length c :: v11 :: .slice (some ad) l.length d :: .int .i64 (l.length : Int) :: .int .i64 (j : Int) :: .bool (decide ((j : Int) < (l.length : Int))) :: .pointer (some ((ad).add (j * 2))) :: .agg ([.int .u32 x.1, .int .u32 x.2] : List Value).toArray :: u17 :: u18 :: u19 :: u20 :: u21 :: u22 :: u23 :: u24 :: u25 :: u26 :: u27 :: u28 :: u29 :: undef :: [])) rfl ?_
          refine hK32 _ _ ?_
          refine c_region (fun ops40 hops39 => ?_)
          clear hops39
          refine p_run _ (x_move (u5) rfl rfl) rfl ?_
          refine p_run _ (x_field (j := 0) _ _ rfl rfl Try.underlying29 rfl (by rfl) rfl) rfl ?_
          refine p_run _ (x_load (.int .u32 x.1) rfl rfl (bkCell (HS.get (.head _)) 0 _ rfl) (by rfl)) rfl ?_
          refine p_run _ (x_conv (k := .u32) (m := x.1) .u64 ((uv (UInt64.ofNat x.1.toNat))) rfl (by rw [Try.underlying26]; rfl) Try.underlying27 rfl (u32_conv u1 (by omega))) rfl ?_
          refine p_run _ (x_build [.int .u64 4, .int .u64 (uv (UInt64.ofNat x.1.toNat))] rfl (by kernel_rfl)) rfl ?_
          refine p_run _ (x_field (j := 1) _ _ rfl rfl Try.underlying29 rfl (by rfl) rfl) rfl ?_
          refine p_run (l' := (.slice A xs.length c :: .slice (some ad) l.length d :: undef :: undef :: .slice none 0 0 :: u5 :: undef :: .pointer (some ⟨g35, 0, none⟩) :: v9 :: .slice A xs.length c :: v11 :: .slice (some ad) l.length d :: .int .i64 (l.length : Int) :: .int .i64 (j : Int) :: .bool (decide ((j : Int) < (l.length : Int))) :: .pointer (some ((ad).add (j * 2))) :: .agg ([.int .u32 x.1, .int .u32 x.2] : List Value).toArray :: u5 :: .pointer (some ⟨g35, 0, none⟩) :: .int .u32 x.1 :: .int .u64 (uv (UInt64.ofNat x.1.toNat)) :: .agg ([.int .u64 4, .int .u64 (uv (UInt64.ofNat x.1.toNat))] : List Value).toArray :: .pointer (some ⟨g35, 1, none⟩) :: .int .u32 x.2 :: u24 :: u25 :: u26 :: u27 :: u28 :: u29 :: undef :: [])) _ (x_load (.int .u32 x.2) rfl rfl (bkCell (HS.get (.head _)) 1 _ rfl) (by rfl)) rfl ?_
          refine p_run _ (x_conv (k := .u32) (m := x.2) .u64 ((uv (UInt64.ofNat x.2.toNat))) rfl (by rw [Try.underlying26]; rfl) Try.underlying27 rfl (u32_conv u3 (by omega))) rfl ?_
          refine p_run _ (x_build [.int .u64 4, .int .u64 (uv (UInt64.ofNat x.2.toNat))] rfl (by kernel_rfl)) rfl ?_
          refine St.wLit HS (cs := [.int .u64 4, .int .u64 (uv (UInt64.ofNat x.1.toNat)), .int .u64 4, .int .u64 (uv (UInt64.ofNat x.2.toNat))]) 2 (.agg [.int .u64 0, .int .u64 0].toArray) Try.underlying96 (by kernel_rfl) (by decide) (by kernel_rfl) ?_
          clear HS
          intro g41 w42 hg43 HS
          refine w_call [.slice (some ⟨g41, 0, none⟩) 2 2] Try.func26 (by kernel_rfl) (by rfl) rfl ?_
          replace HS : St w (fun _ => False) w42 (blk g41 (nums .u64 (fsN [(4, UInt64.ofNat x.1.toNat), (4, UInt64.ofNat x.2.toNat)])) 66 :: blk g35 [.int .u32 x.1, .int .u32 x.2] 29 :: row kByte rfl 5 u5 (xs ++ (l.take j).flatMap lbB) :: []) := HS
          refine (fields_any (fs := [(4, UInt64.ofNat x.1.toNat), (4, UInt64.ofNat x.2.toNat)]) HS (fw_cons (by decide) (fw_cons (by decide) fw_nil)) (by simp)).mono ?_
          clear HS
          rintro e w45 ⟨v44, rfl, HS⟩
          rw [fsB_cons 4 (x := x.1) (by omega) (by omega), fsB_cons 4 (x := x.2) (by omega) (by omega), fsB_nil, List.append_nil] at HS
          obtain ⟨A46, c47, hv48, hcp49, -⟩ := row_reads (HS.get (.head _))
          subst hv48
          refine ⟨_, rfl, ?_⟩
          replace HS := (HS.front 3 rfl)
          refine St.wAppend HS (.int .u8 0) 1 Try.underlying22 (by kernel_rfl) rfl (by decide) (by decide) (nB 4 x.1 ++ (nB 4 x.2)) _ _ _ rfl rfl (row_rd (HS.get (.tail _ (.head _)))).2.2 (fun _ _ h => h) (by have := nB_len 4 x.1; have := nB_len 4 x.2; simp only [List.length_append]; omega) ?_
          clear HS
          intro v50 w51 HS
          refine p_run _ (x_assign (v50) rfl rfl) rfl ?_
          refine wpList_nil ?_
          refine fr_at (l' := (.slice A xs.length c :: .slice (some ad) l.length d :: undef :: undef :: .slice none 0 0 :: v50 :: undef :: .pointer (some ⟨g35, 0, none⟩) :: v9 :: .slice A xs.length c :: v11 :: .slice (some ad) l.length d :: .int .i64 (l.length : Int) :: .int .i64 (j : Int) :: .bool (decide ((j : Int) < (l.length : Int))) :: .pointer (some ((ad).add (j * 2))) :: .agg ([.int .u32 x.1, .int .u32 x.2] : List Value).toArray :: u5 :: .pointer (some ⟨g35, 0, none⟩) :: .int .u32 x.1 :: .int .u64 (uv (UInt64.ofNat x.1.toNat)) :: .agg ([.int .u64 4, .int .u64 (uv (UInt64.ofNat x.1.toNat))] : List Value).toArray :: .pointer (some ⟨g35, 1, none⟩) :: .int .u32 x.2 :: .int .u64 (uv (UInt64.ofNat x.2.toNat)) :: .agg ([.int .u64 4, .int .u64 (uv (UInt64.ofNat x.2.toNat))] : List Value).toArray :: .slice (some ⟨g41, 0, none⟩) 2 2 :: .slice A46 ((nB 4 x.1 ++ (nB 4 x.2)).length) c47 :: v50 :: u29 :: undef :: [])) rfl ?_
          refine hK30 _ _ ?_
          refine c_region (fun ops53 hops52 => ?_)
          clear hops52
          refine p_run _ (x_arith (k := .i64) (m := (j : Int)) (n := 1) .add (((j + 1 : Nat) : Int)) rfl rfl rfl (show IntKind.i64.wrap ((j : Int) + 1) = ((j + 1 : Nat) : Int) from ((wr64' (by omega)).trans (by omega))) rfl) rfl ?_
          refine p_run _ (x_move (.int .i64 ((j + 1 : Nat) : Int)) rfl rfl) rfl ?_
          refine wpList_nil ?_
          refine fr_at (l' := (.slice A xs.length c :: .slice (some ad) l.length d :: undef :: undef :: .slice none 0 0 :: v50 :: undef :: .pointer (some ⟨g35, 0, none⟩) :: v9 :: .slice A xs.length c :: v11 :: .slice (some ad) l.length d :: .int .i64 (l.length : Int) :: .int .i64 ((j + 1 : Nat) : Int) :: .bool (decide ((j : Int) < (l.length : Int))) :: .pointer (some ((ad).add (j * 2))) :: .agg ([.int .u32 x.1, .int .u32 x.2] : List Value).toArray :: u5 :: .pointer (some ⟨g35, 0, none⟩) :: .int .u32 x.1 :: .int .u64 (uv (UInt64.ofNat x.1.toNat)) :: .agg ([.int .u64 4, .int .u64 (uv (UInt64.ofNat x.1.toNat))] : List Value).toArray :: .pointer (some ⟨g35, 1, none⟩) :: .int .u32 x.2 :: .int .u64 (uv (UInt64.ofNat x.2.toNat)) :: .agg ([.int .u64 4, .int .u64 (uv (UInt64.ofNat x.2.toNat))] : List Value).toArray :: .slice (some ⟨g41, 0, none⟩) 2 2 :: .slice A46 ((nB 4 x.1 ++ (nB 4 x.2)).length) c47 :: v50 :: .int .i64 ((j + 1 : Nat) : Int) :: undef :: [])) rfl ?_
          rw [lb_snoc2 hx] at HS
          refine hJ20 (j + 1, v50) _ _ ?_ ?_
          · show l.length - (j + 1) < l.length - j; omega
          · exact ⟨_, _, _, _, _, _, _, _, _, _, _, _, _, _, _, _, _, rfl, (((HS.front 1 rfl).drop.front 1 rfl).drop.front 1 rfl).drop, (by omega)⟩
        · have hlt : j = l.length := by have := of_decide_eq_false hc28; omega
          subst hlt
          rw [List.take_length] at HS
          refine wp_exit ?_
          refine hK14 _ _ ?_
          refine wp_seq_k (fun K54 hK55 => ?_)
          refine c_region (fun ops57 hops56 => ?_)
          clear hops56
          refine p_run _ (x_move (u5) rfl rfl) rfl ?_
          refine p_run _ (x_assign (u5) rfl rfl) rfl ?_
          refine wpList_nil ?_
          refine hK55 _ _ ?_
          refine wp_ret ?_
          try simp only [Exit.inBlock, Exit.then]
          refine c_ret (u5) (r_tmp rfl rfl) ?_
          exact ⟨_, rfl, HS⟩
theorem h8_step2 {m : Mg} {j : Nat} {x : It} (hx : m.its[j]? = some x) : h8 m j ++ (nB 1 x.1 ++ nB 1 (if x.2.1 then 1 else 0)) ++ x.2.2 = h8 m (j + 1) := by
  have := h8_step hx
  rwa [List.append_nil] at this
set_option maxRecDepth 10000 in
set_option maxHeartbeats 8000000 in
theorem r18bytes_any (w : World) (m : Mg) (A : Option Addr) (c : Nat) (hA : kIt.C w A m.its.length m.its) (B : Option Addr) (d : Nat) (hB : kHv.C w B m.hvs.length m.hvs) (hl : m.its.length ≤ 1000) (hl2 : m.hvs.length ≤ 1000) (hw : m.wf) : Calls Try.prog 13 #[mgV m A c B d] w fun e w' => ∃ A' c', e = .returned (.tuple #[.slice A' (fbB m).length c', .int .i64 (fbE m)]) ∧ St w (fun _ => False) w' [row kByte rfl 5 (.slice A' (fbB m).length c') (fbB m)] := by
  have HS := St.empty w
  rcases hok : mgOk m with _ | _
  · skip
    refine c_enter Try.func13 rfl 108 rfl (mgV m A c B d :: U64g2 (U32g2 (U8g2 (undef :: undef :: undef :: [])))) rfl ?_
    refine wp_seq_k (fun K1 hK2 => ?_)
    refine c_region (fun ops4 hops3 => ?_)
    clear hops3
    refine St.wBox HS (cs := [.int .i64 m.k, .int .u32 m.e, .int .u64 m.s, .int .u32 m.te, .int .u32 m.ts, .int .u32 m.be, .int .u32 m.bs, .int .i64 m.ix, .int .i64 m.tt, .int .u32 m.tk, .slice A m.its.length c, .slice B m.hvs.length d]) (mgV m A c B d) rfl rfl ?_
    clear HS
    intro g5 w6 hg7 HS
    refine p_run _ (x_assign (.slice none 0 0) rfl rfl) rfl ?_
    refine p_run _ (x_assign (.int .i64 0) rfl rfl) rfl ?_
    refine wpList_nil ?_
    refine hK2 _ _ ?_
    refine wp_seq_k (fun K8 hK9 => ?_)
    refine wp_seq_k (fun K10 hK11 => ?_)
    refine c_region (fun ops13 hops12 => ?_)
    clear hops12
    refine p_run _ (x_loads [.int .i64 m.k, .int .u32 m.e, .int .u64 m.s, .int .u32 m.te, .int .u32 m.ts, .int .u32 m.be, .int .u32 m.bs, .int .i64 m.ix, .int .i64 m.tt, .int .u32 m.tk, .slice A m.its.length c, .slice B m.hvs.length d] 12 rfl rfl (bkCells (HS.get (.head _)) 0 _ rfl) (by rfl) (by kernel_rfl) rfl) rfl ?_
    refine w_call [mgV m A c B d] Try.func15 (by kernel_rfl) (by rfl) rfl ?_
    refine (r18right_any _ m A c (Kd.C_below hA HS.belowOf) B d (Kd.C_below hB HS.belowOf) hl hl2).mono ?_
    rintro e w14 ⟨he_, hb_⟩
    rw [hok] at he_
    subst he_
    replace HS := HS.here hb_
    clear hb_
    refine ⟨_, rfl, ?_⟩
    refine p_run _ (x_not false rfl rfl) rfl ?_
    refine wpList_nil ?_
    refine fr_at (l' := (mgV m A c B d :: .pointer (some ⟨g5, 0, none⟩) :: .slice none 0 0 :: .int .i64 0 :: U4g2 (undef :: undef :: mgV m A c B d :: .bool false :: .bool true :: U64g2 (U16g2 (U8g2 (U4g2 (undef :: undef :: undef :: []))))))) rfl ?_
    refine hK11 _ _ ?_
    refine c_true rfl ?_
    refine wp_seq_k (fun K15 hK16 => ?_)
    refine c_region (fun ops18 hops17 => ?_)
    clear hops17
    refine p_run _ (x_assign (.slice none 0 0) rfl rfl) rfl ?_
    refine p_run _ (x_assign (.int .i64 181) rfl rfl) rfl ?_
    refine wpList_nil ?_
    refine hK16 _ _ ?_
    refine wp_ret ?_
    try simp only [Exit.inBlock, Exit.then]
    refine c_ret (.tuple [.slice none 0 0, .int .i64 181].toArray) (r_tmp2 rfl rfl rfl) ?_
    replace HS := HS.nil kByte rfl 5
    have e1 : fbB m = [] := if_neg (by rw [hok]; decide)
    have e2 : fbE m = 181 := if_neg (by rw [hok]; decide)
    rw [e1, e2]
    exact ⟨none, 0, rfl, (HS.front 1 rfl).drop⟩
  · skip
    obtain ⟨⟨k1, k2⟩, ⟨e1_, e2_⟩, ⟨x1, x2, t1, t2⟩, hi4, hh8, hio, hho⟩ := nm_of hok
    have hs_ : m.s = uv (UInt64.ofNat m.s.toNat) := by unfold uv; rw [nat_of hw.s.1 hw.s.2]; have := hw.s.1; omega
    obtain ⟨s1_, s2_⟩ := hw.s
    obtain ⟨tk1, tk2⟩ := hw.tk
    refine c_enter Try.func13 rfl 108 rfl (mgV m A c B d :: U64g2 (U32g2 (U8g2 (undef :: undef :: undef :: [])))) rfl ?_
    refine wp_seq_k (fun K1 hK2 => ?_)
    refine c_region (fun ops4 hops3 => ?_)
    clear hops3
    refine St.wBox HS (cs := [.int .i64 m.k, .int .u32 m.e, .int .u64 m.s, .int .u32 m.te, .int .u32 m.ts, .int .u32 m.be, .int .u32 m.bs, .int .i64 m.ix, .int .i64 m.tt, .int .u32 m.tk, .slice A m.its.length c, .slice B m.hvs.length d]) (mgV m A c B d) rfl rfl ?_
    clear HS
    intro g5 w6 hg7 HS
    refine p_run _ (x_assign (.slice none 0 0) rfl rfl) rfl ?_
    refine p_run _ (x_assign (.int .i64 0) rfl rfl) rfl ?_
    refine wpList_nil ?_
    refine hK2 _ _ ?_
    refine wp_seq_k (fun K8 hK9 => ?_)
    refine wp_seq_k (fun K10 hK11 => ?_)
    refine c_region (fun ops13 hops12 => ?_)
    clear hops12
    refine p_run _ (x_loads [.int .i64 m.k, .int .u32 m.e, .int .u64 m.s, .int .u32 m.te, .int .u32 m.ts, .int .u32 m.be, .int .u32 m.bs, .int .i64 m.ix, .int .i64 m.tt, .int .u32 m.tk, .slice A m.its.length c, .slice B m.hvs.length d] 12 rfl rfl (bkCells (HS.get (.head _)) 0 _ rfl) (by rfl) (by kernel_rfl) rfl) rfl ?_
    refine w_call [mgV m A c B d] Try.func15 (by kernel_rfl) (by rfl) rfl ?_
    refine (r18right_any _ m A c (Kd.C_below hA HS.belowOf) B d (Kd.C_below hB HS.belowOf) hl hl2).mono ?_
    rintro e w14 ⟨he_, hb_⟩
    rw [hok] at he_
    subst he_
    replace HS := HS.here hb_
    clear hb_
    refine ⟨_, rfl, ?_⟩
    refine p_run _ (x_not true rfl rfl) rfl ?_
    refine wpList_nil ?_
    refine fr_at (l' := (mgV m A c B d :: .pointer (some ⟨g5, 0, none⟩) :: .slice none 0 0 :: .int .i64 0 :: U4g2 (undef :: undef :: mgV m A c B d :: .bool true :: .bool false :: U64g2 (U16g2 (U8g2 (U4g2 (undef :: undef :: undef :: []))))))) rfl ?_
    refine hK11 _ _ ?_
    refine c_false rfl ?_
    refine wp_skip ?_
    refine hK9 _ _ ?_
    refine wp_seq_k (fun K15 hK16 => ?_)
    refine c_region (fun ops18 hops17 => ?_)
    clear hops17
    refine p_run _ (x_field (j := 0) _ _ rfl rfl Try.underlying33 rfl (by rfl) rfl) rfl ?_
    refine p_run _ (x_load (.int .i64 m.k) rfl rfl (bkCell (HS.get (.head _)) 0 _ rfl) (by rfl)) rfl ?_
    refine p_run _ (x_conv (k := .i64) (m := m.k) .u64 ((uv (UInt64.ofNat m.k.toNat))) rfl (by rw [Try.underlying3]; rfl) Try.underlying27 rfl (u32_conv (by omega) (by omega))) rfl ?_
    refine p_run _ (x_build [.int .u64 1, .int .u64 (uv (UInt64.ofNat m.k.toNat))] rfl (by kernel_rfl)) rfl ?_
    refine p_run _ (x_field (j := 1) _ _ rfl rfl Try.underlying33 rfl (by rfl) rfl) rfl ?_
    refine p_run _ (x_load (.int .u32 m.e) rfl rfl (bkCell (HS.get (.head _)) 1 _ rfl) (by rfl)) rfl ?_
    refine p_run (l' := (mgV m A c B d :: .pointer (some ⟨g5, 0, none⟩) :: .slice none 0 0 :: .int .i64 0 :: U4g2 (undef :: undef :: mgV m A c B d :: .bool true :: .bool false :: .pointer (some ⟨g5, 0, none⟩) :: .int .i64 m.k :: .int .u64 (uv (UInt64.ofNat m.k.toNat)) :: .agg ([.int .u64 1, .int .u64 (uv (UInt64.ofNat m.k.toNat))] : List Value).toArray :: .pointer (some ⟨g5, 1, none⟩) :: .int .u32 m.e :: .int .u64 (uv (UInt64.ofNat m.e.toNat)) :: U64g2 (U16g2 (U8g2 ([])))))) _ (x_conv (k := .u32) (m := m.e) .u64 ((uv (UInt64.ofNat m.e.toNat))) rfl (by rw [Try.underlying26]; rfl) Try.underlying27 rfl (u32_conv (by omega) (by omega))) rfl ?_
    refine p_run _ (x_build [.int .u64 4, .int .u64 (uv (UInt64.ofNat m.e.toNat))] rfl (by kernel_rfl)) rfl ?_
    refine p_run _ (x_field (j := 2) _ _ rfl rfl Try.underlying33 rfl (by rfl) rfl) rfl ?_
    refine p_run _ (x_load (.int .u64 m.s) rfl rfl (bkCell (HS.get (.head _)) 2 _ rfl) (by rfl)) rfl ?_
    refine p_run _ (x_build [.int .u64 8, .int .u64 m.s] rfl (by kernel_rfl)) rfl ?_
    refine St.wLit HS (cs := [.int .u64 1, .int .u64 (uv (UInt64.ofNat m.k.toNat)), .int .u64 4, .int .u64 (uv (UInt64.ofNat m.e.toNat)), .int .u64 8, .int .u64 m.s]) 2 (.agg [.int .u64 0, .int .u64 0].toArray) Try.underlying96 (by kernel_rfl) (by decide) (by kernel_rfl) ?_
    clear HS
    intro g19 w20 hg21 HS
    refine w_call [.slice (some ⟨g19, 0, none⟩) 3 3] Try.func26 (by kernel_rfl) (by rfl) rfl ?_
    replace HS : St w (fun _ => False) w20 ([blk g19 [.int .u64 1, .int .u64 (uv (UInt64.ofNat m.k.toNat)), .int .u64 4, .int .u64 (uv (UInt64.ofNat m.e.toNat)), .int .u64 8, .int .u64 (uv (UInt64.ofNat m.s.toNat))] 66, blk g5 [.int .i64 m.k, .int .u32 m.e, .int .u64 m.s, .int .u32 m.te, .int .u32 m.ts, .int .u32 m.be, .int .u32 m.bs, .int .i64 m.ix, .int .i64 m.tt, .int .u32 m.tk, .slice A m.its.length c, .slice B m.hvs.length d] 33]) := by
      rw [← hs_]
      exact HS
    replace HS : St w (fun _ => False) w20 (blk g19 (nums .u64 (fsN [(1, UInt64.ofNat m.k.toNat), (4, UInt64.ofNat m.e.toNat), (8, UInt64.ofNat m.s.toNat)])) 66 :: blk g5 [.int .i64 m.k, .int .u32 m.e, .int .u64 m.s, .int .u32 m.te, .int .u32 m.ts, .int .u32 m.be, .int .u32 m.bs, .int .i64 m.ix, .int .i64 m.tt, .int .u32 m.tk, .slice A m.its.length c, .slice B m.hvs.length d] 33 :: []) := HS
    refine (fields_any (fs := [(1, UInt64.ofNat m.k.toNat), (4, UInt64.ofNat m.e.toNat), (8, UInt64.ofNat m.s.toNat)]) HS (fw_cons (by decide) (fw_cons (by decide) (fw_cons (by decide) fw_nil))) (by simp)).mono ?_
    clear HS
    rintro e w23 ⟨v22, rfl, HS⟩
    rw [fsB_cons 1 (x := m.k) (by omega) (by omega), fsB_cons 4 (x := m.e) (by omega) (by omega), fsB_cons 8 (x := m.s) (by omega) (by omega), fsB_nil, List.append_nil] at HS
    obtain ⟨A24, c25, hv26, hcp27, -⟩ := row_reads (HS.get (.head _))
    subst hv26
    rw [h3_eq] at HS
    refine ⟨_, rfl, ?_⟩
    refine p_run (l' := (mgV m A c B d :: .pointer (some ⟨g5, 0, none⟩) :: .slice none 0 0 :: .int .i64 0 :: .slice A24 ((h3 m).length) c25 :: U4g2 (undef :: mgV m A c B d :: .bool true :: .bool false :: .pointer (some ⟨g5, 0, none⟩) :: .int .i64 m.k :: .int .u64 (uv (UInt64.ofNat m.k.toNat)) :: .agg ([.int .u64 1, .int .u64 (uv (UInt64.ofNat m.k.toNat))] : List Value).toArray :: .pointer (some ⟨g5, 1, none⟩) :: .int .u32 m.e :: .int .u64 (uv (UInt64.ofNat m.e.toNat)) :: .agg ([.int .u64 4, .int .u64 (uv (UInt64.ofNat m.e.toNat))] : List Value).toArray :: .pointer (some ⟨g5, 2, none⟩) :: .int .u64 m.s :: .agg ([.int .u64 8, .int .u64 m.s] : List Value).toArray :: .slice (some ⟨g19, 0, none⟩) 3 3 :: .slice A24 ((h3 m).length) c25 :: U64g2 (U16g2 (undef :: undef :: []))))) _ (x_assign (.slice A24 ((h3 m).length) c25) rfl rfl) rfl ?_
    refine wpList_nil ?_
    refine hK16 _ _ ?_
    refine wp_seq_k (fun K28 hK29 => ?_)
    refine c_region (fun ops31 hops30 => ?_)
    clear hops30
    refine p_run _ (x_move (.slice A24 ((h3 m).length) c25) rfl rfl) rfl ?_
    refine p_run _ (x_field (j := 3) _ _ rfl rfl Try.underlying33 rfl (by rfl) rfl) rfl ?_
    refine p_run _ (x_loads [.int .u32 m.te, .int .u32 m.ts] 2 rfl rfl (bkCells (HS.get (.tail _ (.tail _ (.head _)))) 3 _ rfl) (by rfl) (by kernel_rfl) rfl) rfl ?_
    refine p_run _ (x_field (j := 5) _ _ rfl rfl Try.underlying33 rfl (by rfl) rfl) rfl ?_
    refine p_run _ (x_loads [.int .u32 m.be, .int .u32 m.bs] 2 rfl rfl (bkCells (HS.get (.tail _ (.tail _ (.head _)))) 5 _ rfl) (by rfl) (by kernel_rfl) rfl) rfl ?_
    refine St.wLit HS (cs := [.int .u32 m.te, .int .u32 m.ts, .int .u32 m.be, .int .u32 m.bs]) 2 (.agg [.int .u32 0, .int .u32 0].toArray) Try.underlying68 (by kernel_rfl) (by decide) (by kernel_rfl) ?_
    clear HS
    intro g32 w33 hg34 HS
    refine w_call [.slice A24 ((h3 m).length) c25, .slice (some ⟨g32, 0, none⟩) 2 2] Try.func27 (by kernel_rfl) (by rfl) rfl ?_
    replace HS := (HS.front 1 rfl)
    have hsl_ : Sl w33 A24 c25 (h3 m) := by
      obtain ⟨_, _, hv_, hsl_⟩ := Own.sl (row_own HS.hs.head)
      injection hv_ with e1 e2 e3
      subst e1 e3
      exact hsl_
    refine (r3put_any _ _ c25 (h3 m) hsl_ _ 2 [(m.te, m.ts), (m.be, m.bs)] (lit_reads (HS.get (.tail _ (.head _))) (lb_reps2 _ m.te m.ts m.be m.bs) (by simp)) (by intro y hy; simp only [List.mem_cons, List.not_mem_nil, or_false] at hy; rcases hy with rfl | rfl; exact ⟨hw.te, hw.ts⟩; exact ⟨hw.be, hw.bs⟩) (by simp only [List.length_cons, List.length_nil]; rw [(h_len m).2.2.1]; decide)).mono ?_
    rintro e w38 ⟨v37, rfl, hk_⟩
    clear hsl_
    replace HS := HS.more hk_
    clear hk_
    replace HS : St _ _ _ (row kByte rfl _ _ (h4 m) :: _) := HS
    refine ⟨_, rfl, ?_⟩
    refine fr_to (l' := (mgV m A c B d :: .pointer (some ⟨g5, 0, none⟩) :: .slice none 0 0 :: .int .i64 0 :: .slice A24 ((h3 m).length) c25 :: U4g2 (undef :: mgV m A c B d :: .bool true :: .bool false :: .pointer (some ⟨g5, 0, none⟩) :: .int .i64 m.k :: .int .u64 (uv (UInt64.ofNat m.k.toNat)) :: .agg ([.int .u64 1, .int .u64 (uv (UInt64.ofNat m.k.toNat))] : List Value).toArray :: .pointer (some ⟨g5, 1, none⟩) :: .int .u32 m.e :: .int .u64 (uv (UInt64.ofNat m.e.toNat)) :: .agg ([.int .u64 4, .int .u64 (uv (UInt64.ofNat m.e.toNat))] : List Value).toArray :: .pointer (some ⟨g5, 2, none⟩) :: .int .u64 m.s :: .agg ([.int .u64 8, .int .u64 m.s] : List Value).toArray :: .slice (some ⟨g19, 0, none⟩) 3 3 :: .slice A24 ((h3 m).length) c25 :: .slice A24 ((h3 m).length) c25 :: .pointer (some ⟨g5, 3, none⟩) :: .agg ([.int .u32 m.te, .int .u32 m.ts] : List Value).toArray :: .pointer (some ⟨g5, 5, none⟩) :: .agg ([.int .u32 m.be, .int .u32 m.bs] : List Value).toArray :: .slice (some ⟨g32, 0, none⟩) 2 2 :: v37 :: U64g2 (U8g2 (undef :: undef :: undef :: []))))) rfl ?_
    refine p_run _ (x_assign (v37) rfl rfl) rfl ?_
    refine wpList_nil ?_
    refine hK29 _ _ ?_
    refine wp_seq_k (fun K39 hK40 => ?_)
    refine c_region (fun ops42 hops41 => ?_)
    clear hops41
    refine p_run _ (x_move (v37) rfl rfl) rfl ?_
    refine p_run _ (x_field (j := 7) _ _ rfl rfl Try.underlying33 rfl (by rfl) rfl) rfl ?_
    refine p_run _ (x_load (.int .i64 m.ix) rfl rfl (bkCell (HS.get (.tail _ (.tail _ (.tail _ (.tail _ (.head _)))))) 7 _ rfl) (by rfl)) rfl ?_
    refine p_run _ (x_conv (k := .i64) (m := m.ix) .u8 ((bv (UInt8.ofNat m.ix.toNat))) rfl (by rw [Try.underlying3]; rfl) Try.underlying5 rfl (u8_conv (by omega) (by omega))) rfl ?_
    refine p_run _ (x_field (j := 8) _ _ rfl rfl Try.underlying33 rfl (by rfl) rfl) rfl ?_
    refine p_run (l' := (mgV m A c B d :: .pointer (some ⟨g5, 0, none⟩) :: .slice none 0 0 :: .int .i64 0 :: v37 :: U4g2 (undef :: mgV m A c B d :: .bool true :: .bool false :: .pointer (some ⟨g5, 0, none⟩) :: .int .i64 m.k :: .int .u64 (uv (UInt64.ofNat m.k.toNat)) :: .agg ([.int .u64 1, .int .u64 (uv (UInt64.ofNat m.k.toNat))] : List Value).toArray :: .pointer (some ⟨g5, 1, none⟩) :: .int .u32 m.e :: .int .u64 (uv (UInt64.ofNat m.e.toNat)) :: .agg ([.int .u64 4, .int .u64 (uv (UInt64.ofNat m.e.toNat))] : List Value).toArray :: .pointer (some ⟨g5, 2, none⟩) :: .int .u64 m.s :: .agg ([.int .u64 8, .int .u64 m.s] : List Value).toArray :: .slice (some ⟨g19, 0, none⟩) 3 3 :: .slice A24 ((h3 m).length) c25 :: .slice A24 ((h3 m).length) c25 :: .pointer (some ⟨g5, 3, none⟩) :: .agg ([.int .u32 m.te, .int .u32 m.ts] : List Value).toArray :: .pointer (some ⟨g5, 5, none⟩) :: .agg ([.int .u32 m.be, .int .u32 m.bs] : List Value).toArray :: .slice (some ⟨g32, 0, none⟩) 2 2 :: v37 :: v37 :: .pointer (some ⟨g5, 7, none⟩) :: .int .i64 m.ix :: .int .u8 (bv (UInt8.ofNat m.ix.toNat)) :: .pointer (some ⟨g5, 8, none⟩) :: .int .i64 m.tt :: U64g2 (U4g2 (undef :: []))))) _ (x_load (.int .i64 m.tt) rfl rfl (bkCell (HS.get (.tail _ (.tail _ (.tail _ (.tail _ (.head _)))))) 8 _ rfl) (by rfl)) rfl ?_
    refine p_run _ (x_conv (k := .i64) (m := m.tt) .u8 ((bv (UInt8.ofNat m.tt.toNat))) rfl (by rw [Try.underlying3]; rfl) Try.underlying5 rfl (u8_conv (by omega) (by omega))) rfl ?_
    refine St.wLit HS (cs := [.int .u8 (bv (UInt8.ofNat m.ix.toNat)), .int .u8 (bv (UInt8.ofNat m.tt.toNat))]) 1 (.int .u8 0) Try.underlying22 (by kernel_rfl) (by decide) (by kernel_rfl) ?_
    clear HS
    intro g43 w44 hg45 HS
    replace HS := (HS.front 1 rfl)
    refine St.wAppend HS (.int .u8 0) 1 Try.underlying22 (by kernel_rfl) rfl (by decide) (by decide) [(UInt8.ofNat m.ix.toNat), (UInt8.ofNat m.tt.toNat)] _ _ _ rfl rfl (rd_blkn (xs := [(UInt8.ofNat m.ix.toNat), (UInt8.ofNat m.tt.toNat)]) (HS.get (.tail _ (.head _))) rfl (by decide)) (fun _ _ h => h) (by have := h_len m; omega) ?_
    clear HS
    intro v46 w47 HS
    refine p_run _ (x_assign (v46) rfl rfl) rfl ?_
    refine wpList_nil ?_
    obtain ⟨qz48, hqz48⟩ : ∃ q_ : V8, q_ = ⟨.agg ([.int .u64 1, .int .u64 (uv (UInt64.ofNat m.k.toNat))] : List Value).toArray, .pointer (some ⟨g5, 1, none⟩), .int .u32 m.e, .int .u64 (uv (UInt64.ofNat m.e.toNat)), .agg ([.int .u64 4, .int .u64 (uv (UInt64.ofNat m.e.toNat))] : List Value).toArray, .pointer (some ⟨g5, 2, none⟩), .int .u64 m.s, .agg ([.int .u64 8, .int .u64 m.s] : List Value).toArray⟩ := ⟨_, rfl⟩
    obtain ⟨qz49, hqz49⟩ : ∃ q_ : V8, q_ = ⟨.slice (some ⟨g19, 0, none⟩) 3 3, .slice A24 ((h3 m).length) c25, .slice A24 ((h3 m).length) c25, .pointer (some ⟨g5, 3, none⟩), .agg ([.int .u32 m.te, .int .u32 m.ts] : List Value).toArray, .pointer (some ⟨g5, 5, none⟩), .agg ([.int .u32 m.be, .int .u32 m.bs] : List Value).toArray, .slice (some ⟨g32, 0, none⟩) 2 2⟩ := ⟨_, rfl⟩
    obtain ⟨qz50, hqz50⟩ : ∃ q_ : V8, q_ = ⟨v37, v37, .pointer (some ⟨g5, 7, none⟩), .int .i64 m.ix, .int .u8 (bv (UInt8.ofNat m.ix.toNat)), .pointer (some ⟨g5, 8, none⟩), .int .i64 m.tt, .int .u8 (bv (UInt8.ofNat m.tt.toNat))⟩ := ⟨_, rfl⟩
    refine fr_at (l' := (mgV m A c B d :: .pointer (some ⟨g5, 0, none⟩) :: .slice none 0 0 :: .int .i64 0 :: v46 :: U4g2 (undef :: mgV m A c B d :: .bool true :: .bool false :: .pointer (some ⟨g5, 0, none⟩) :: .int .i64 m.k :: .int .u64 (uv (UInt64.ofNat m.k.toNat)) :: V8.l qz48 (V8.l qz49 (V8.l qz50 (.slice (some ⟨g43, 0, none⟩) 2 2 :: v46 :: U64g2 (undef :: undef :: []))))))) (by subst hqz48 hqz49 hqz50; rfl) ?_
    refine hK40 _ _ ?_
    refine wp_seq_k (fun K51 hK52 => ?_)
    skip
    · skip
      rw [nB1' (by omega) (by omega), nB1' (by omega) (by omega)] at HS
      replace HS : St _ _ _ (row kByte rfl _ _ (h5 m) :: _) := HS
      refine c_region (fun ops54 hops53 => ?_)
      clear hops53
      refine p_run _ (x_move (v46) rfl rfl) rfl ?_
      refine p_run _ (x_field (j := 9) _ _ rfl rfl Try.underlying33 rfl (by rfl) rfl) rfl ?_
      refine p_run _ (x_load (.int .u32 m.tk) rfl rfl (bkCell (HS.get (.tail _ (.tail _ (.tail _ (.tail _ (.tail _ (.head _))))))) 9 _ rfl) (by rfl)) rfl ?_
      refine p_run _ (x_conv (k := .u32) (m := m.tk) .u64 ((uv (UInt64.ofNat m.tk.toNat))) rfl (by rw [Try.underlying26]; rfl) Try.underlying27 rfl (u32_conv (by omega) (by omega))) rfl ?_
      refine p_run _ (x_build [.int .u64 4, .int .u64 (uv (UInt64.ofNat m.tk.toNat))] rfl (by kernel_rfl)) rfl ?_
      refine St.wLit1 HS [.int .u64 4, .int .u64 (uv (UInt64.ofNat m.tk.toNat))] 2 (.agg [.int .u64 0, .int .u64 0].toArray) (.agg ([.int .u64 4, .int .u64 (uv (UInt64.ofNat m.tk.toNat))] : List Value).toArray) Try.underlying96 (by kernel_rfl) (by decide) rfl rfl rfl ?_
      clear HS
      intro g55 w56 hg57 HS
      refine w_call [.slice (some ⟨g55, 0, none⟩) 1 1] Try.func26 (by kernel_rfl) (by rfl) rfl ?_
      replace HS : St w (fun _ => False) w56 (blk g55 (nums .u64 (fsN [(4, UInt64.ofNat m.tk.toNat)])) 66 :: row kByte rfl 5 v46 (h5 m) :: blk g43 [.int .u8 (bv (UInt8.ofNat m.ix.toNat)), .int .u8 (bv (UInt8.ofNat m.tt.toNat))] 5 :: row kByte rfl 5 (.slice A24 ((h3 m).length) c25) (h3 m) :: blk g32 [.int .u32 m.te, .int .u32 m.ts, .int .u32 m.be, .int .u32 m.bs] 29 :: blk g19 (nums .u64 (fsN [(1, UInt64.ofNat m.k.toNat), (4, UInt64.ofNat m.e.toNat), (8, UInt64.ofNat m.s.toNat)])) 66 :: blk g5 [.int .i64 m.k, .int .u32 m.e, .int .u64 m.s, .int .u32 m.te, .int .u32 m.ts, .int .u32 m.be, .int .u32 m.bs, .int .i64 m.ix, .int .i64 m.tt, .int .u32 m.tk, .slice A m.its.length c, .slice B m.hvs.length d] 33 :: []) := HS
      refine (fields_any (fs := [(4, UInt64.ofNat m.tk.toNat)]) HS (fw_cons (by decide) fw_nil) (by simp)).mono ?_
      clear HS
      rintro e w59 ⟨v58, rfl, HS⟩
      rw [fsB_cons 4 (x := m.tk) (by omega) (by omega), fsB_nil, List.append_nil] at HS
      obtain ⟨A60, c61, hv62, hcp63, -⟩ := row_reads (HS.get (.head _))
      subst hv62
      refine ⟨_, rfl, ?_⟩
      refine fr_to (l' := (mgV m A c B d :: .pointer (some ⟨g5, 0, none⟩) :: .slice none 0 0 :: .int .i64 0 :: v46 :: U4g2 (undef :: mgV m A c B d :: .bool true :: .bool false :: .pointer (some ⟨g5, 0, none⟩) :: .int .i64 m.k :: .int .u64 (uv (UInt64.ofNat m.k.toNat)) :: V8.l qz48 (V8.l qz49 (V8.l qz50 (.slice (some ⟨g43, 0, none⟩) 2 2 :: v46 :: v46 :: .pointer (some ⟨g5, 9, none⟩) :: .int .u32 m.tk :: .int .u64 (uv (UInt64.ofNat m.tk.toNat)) :: .agg ([.int .u64 4, .int .u64 (uv (UInt64.ofNat m.tk.toNat))] : List Value).toArray :: .slice (some ⟨g55, 0, none⟩) 1 1 :: .slice A60 ((nB 4 m.tk).length) c61 :: U32g2 (U16g2 (U8g2 (undef :: undef :: undef :: []))))))))) rfl ?_
      replace HS := (HS.front 2 rfl)
      refine St.wAppend HS (.int .u8 0) 1 Try.underlying22 (by kernel_rfl) rfl (by decide) (by decide) (nB 4 m.tk) _ _ _ rfl rfl (row_rd (HS.get (.tail _ (.head _)))).2.2 (fun _ _ h => h) (by have := h_len m; have := nB_len 4 m.tk; omega) ?_
      clear HS
      intro v64 w65 HS
      refine p_run _ (x_assign (v64) rfl rfl) rfl ?_
      refine wpList_nil ?_
      refine hK52 _ _ ?_
      refine wp_seq_k (fun K66 hK67 => ?_)
      skip
      · skip
        skip
        replace HS : St _ _ _ (row kByte rfl _ _ (h6 m) :: _) := HS
        refine c_region (fun ops69 hops68 => ?_)
        clear hops68
        refine p_run _ (x_move (v64) rfl rfl) rfl ?_
        refine p_run _ (x_field (j := 10) _ _ rfl rfl Try.underlying33 rfl (by rfl) rfl) rfl ?_
        refine p_run _ (x_load (.slice A m.its.length c) rfl rfl (bkCell (HS.get (.tail _ (.tail _ (.tail _ (.tail _ (.tail _ (.tail _ (.tail _ (.head _))))))))) 10 _ rfl) (by rfl)) rfl ?_
        refine p_run _ (x_len rfl rfl Try.underlying30) rfl ?_
        refine p_run (l' := (mgV m A c B d :: .pointer (some ⟨g5, 0, none⟩) :: .slice none 0 0 :: .int .i64 0 :: v64 :: U4g2 (undef :: mgV m A c B d :: .bool true :: .bool false :: .pointer (some ⟨g5, 0, none⟩) :: .int .i64 m.k :: .int .u64 (uv (UInt64.ofNat m.k.toNat)) :: V8.l qz48 (V8.l qz49 (V8.l qz50 (.slice (some ⟨g43, 0, none⟩) 2 2 :: v46 :: v46 :: .pointer (some ⟨g5, 9, none⟩) :: .int .u32 m.tk :: .int .u64 (uv (UInt64.ofNat m.tk.toNat)) :: .agg ([.int .u64 4, .int .u64 (uv (UInt64.ofNat m.tk.toNat))] : List Value).toArray :: .slice (some ⟨g55, 0, none⟩) 1 1 :: .slice A60 ((nB 4 m.tk).length) c61 :: v64 :: v64 :: .pointer (some ⟨g5, 10, none⟩) :: .slice A m.its.length c :: .int .i64 (m.its.length : Int) :: .int .u8 (bv (UInt8.ofNat (m.its.length : Int).toNat)) :: U32g2 (U16g2 (U4g2 (undef :: []))))))))) _ (x_conv (k := .i64) (m := (m.its.length : Int)) .u8 ((bv (UInt8.ofNat (m.its.length : Int).toNat))) rfl (by rw [Try.underlying3]; rfl) Try.underlying5 rfl (u8_conv (by omega) (by omega))) rfl ?_
        refine St.wLit1 HS [.int .u8 (bv (UInt8.ofNat (m.its.length : Int).toNat))] 1 (.int .u8 0) (.int .u8 (bv (UInt8.ofNat (m.its.length : Int).toNat))) Try.underlying22 (by kernel_rfl) (by decide) rfl rfl rfl ?_
        clear HS
        intro g70 w71 hg72 HS
        replace HS := (HS.front 1 rfl)
        refine St.wAppend HS (.int .u8 0) 1 Try.underlying22 (by kernel_rfl) rfl (by decide) (by decide) [(UInt8.ofNat (m.its.length : Int).toNat)] _ _ _ rfl rfl (rd_blkn (xs := [(UInt8.ofNat (m.its.length : Int).toNat)]) (HS.get (.tail _ (.head _))) rfl (by decide)) (fun _ _ h => h) (by have := h_len m; omega) ?_
        clear HS
        intro v73 w74 HS
        refine p_run _ (x_assign (v73) rfl rfl) rfl ?_
        refine wpList_nil ?_
        refine hK67 _ _ ?_
        refine wp_seq_k (fun K75 hK76 => ?_)
        refine wp_seq_k (fun K77 hK78 => ?_)
        skip
        · skip
          rw [← nB1 (x := (m.its.length : Int)) (by omega) (by omega)] at HS
          replace HS : St _ _ _ (row kByte rfl _ _ (h7 m) :: _) := HS
          refine c_region (fun ops80 hops79 => ?_)
          clear hops79
          refine p_run _ (x_field (j := 10) _ _ rfl rfl Try.underlying33 rfl (by rfl) rfl) rfl ?_
          refine p_run _ (x_load (.slice A m.its.length c) rfl rfl (bkCell (HS.get (.tail _ (.tail _ (.tail _ (.tail _ (.tail _ (.tail _ (.tail _ (.tail _ (.head _)))))))))) 10 _ rfl) (by rfl)) rfl ?_
          refine p_run _ (x_len rfl rfl Try.underlying30) rfl ?_
          refine p_run (l' := (mgV m A c B d :: .pointer (some ⟨g5, 0, none⟩) :: .slice none 0 0 :: .int .i64 0 :: v73 :: U4g2 (undef :: mgV m A c B d :: .bool true :: .bool false :: .pointer (some ⟨g5, 0, none⟩) :: .int .i64 m.k :: .int .u64 (uv (UInt64.ofNat m.k.toNat)) :: V8.l qz48 (V8.l qz49 (V8.l qz50 (.slice (some ⟨g43, 0, none⟩) 2 2 :: v46 :: v46 :: .pointer (some ⟨g5, 9, none⟩) :: .int .u32 m.tk :: .int .u64 (uv (UInt64.ofNat m.tk.toNat)) :: .agg ([.int .u64 4, .int .u64 (uv (UInt64.ofNat m.tk.toNat))] : List Value).toArray :: .slice (some ⟨g55, 0, none⟩) 1 1 :: .slice A60 ((nB 4 m.tk).length) c61 :: v64 :: v64 :: .pointer (some ⟨g5, 10, none⟩) :: .slice A m.its.length c :: .int .i64 (m.its.length : Int) :: .int .u8 (bv (UInt8.ofNat (m.its.length : Int).toNat)) :: .slice (some ⟨g70, 0, none⟩) 1 1 :: v73 :: .pointer (some ⟨g5, 10, none⟩) :: .slice A m.its.length c :: .int .i64 (m.its.length : Int) :: .int .i64 0 :: U32g2 (U8g2 (U4g2 (undef :: undef :: undef :: []))))))))) _ (x_move (.int .i64 0) rfl rfl) rfl ?_
          refine wpList_nil ?_
          refine hK78 _ _ ?_
          refine wp_block ?_
          refine c_loop (ι := Nat × Value) (fun i_ a_ w_ => match i_ with | (j, u4) => ∃ (u6 : Value) (u7 : Value) (u61 : Value) (u62 : Value) (u63 : Value) (u64 : Value) (u65 : Value) (u66 : Value) (u67 : Value) (u68 : Value) (u69 : Value) (u70 : Value) (u71 : Value) (u72 : Value) (u73 : Value) (u74 : Value) (u75 : Value) (u76 : Value) (u77 : Value), a_ = fr (mgV m A c B d :: .pointer (some ⟨g5, 0, none⟩) :: .slice none 0 0 :: .int .i64 0 :: u4 :: undef :: u6 :: u7 :: undef :: undef :: mgV m A c B d :: .bool true :: .bool false :: .pointer (some ⟨g5, 0, none⟩) :: .int .i64 m.k :: .int .u64 (uv (UInt64.ofNat m.k.toNat)) :: V8.l qz48 (V8.l qz49 (V8.l qz50 (.slice (some ⟨g43, 0, none⟩) 2 2 :: v46 :: v46 :: .pointer (some ⟨g5, 9, none⟩) :: .int .u32 m.tk :: .int .u64 (uv (UInt64.ofNat m.tk.toNat)) :: .agg ([.int .u64 4, .int .u64 (uv (UInt64.ofNat m.tk.toNat))] : List Value).toArray :: .slice (some ⟨g55, 0, none⟩) 1 1 :: .slice A60 ((nB 4 m.tk).length) c61 :: v64 :: v64 :: .pointer (some ⟨g5, 10, none⟩) :: .slice A m.its.length c :: .int .i64 (m.its.length : Int) :: .int .u8 (bv (UInt8.ofNat (m.its.length : Int).toNat)) :: .slice (some ⟨g70, 0, none⟩) 1 1 :: v73 :: .pointer (some ⟨g5, 10, none⟩) :: .slice A m.its.length c :: .int .i64 (m.its.length : Int) :: .int .i64 (j : Int) :: u61 :: u62 :: u63 :: u64 :: u65 :: u66 :: u67 :: u68 :: u69 :: u70 :: u71 :: u72 :: u73 :: u74 :: u75 :: u76 :: u77 :: U16g2 (U8g2 (U4g2 (undef :: undef :: []))))))) ∧ St w (fun _ => False) w_ ([row kByte rfl 5 u4 (h8 m j), blk g5 [.int .i64 m.k, .int .u32 m.e, .int .u64 m.s, .int .u32 m.te, .int .u32 m.ts, .int .u32 m.be, .int .u32 m.bs, .int .i64 m.ix, .int .i64 m.tt, .int .u32 m.tk, .slice A m.its.length c, .slice B m.hvs.length d] 33]) ∧ (j ≤ m.its.length)) (fun i_ => match i_ with | (j, u4) => m.its.length - j) (0, v73) ?_ ?_
          · exact ⟨_, _, _, _, _, _, _, _, _, _, _, _, _, _, _, _, _, _, _, rfl, (by rw [h8_zero]; exact (((((((((HS.front 1 rfl).drop.front 1 rfl).drop.front 1 rfl).drop.front 1 rfl).drop.front 1 rfl).drop.front 1 rfl).drop.front 1 rfl).drop.front 1 rfl).front 1 rfl)), Nat.zero_le _⟩
          · clear HS
            rintro ⟨j, u4⟩ a_ w83 ⟨u6, u7, u61, u62, u63, u64, u65, u66, u67, u68, u69, u70, u71, u72, u73, u74, u75, u76, u77, rfl, HS, hI⟩ J81 hJ82
            have hjl := hI
            refine wp_seq_k (fun K84 hK85 => ?_)
            refine c_region (fun ops87 hops86 => ?_)
            clear hops86
            refine p_run _ (x_cmp (k := .i64) (m := (j : Int)) (n := (m.its.length : Int)) .lss (decide ((j : Int) < (m.its.length : Int))) rfl rfl rfl rfl rfl) rfl ?_
            refine wpList_nil ?_
            refine hK85 _ _ ?_
            refine wp_seq_k (fun K88 hK89 => ?_)
            refine c_cond (t := decide ((j : Int) < (m.its.length : Int))) rfl (fun hc90 => ?_) (fun hc90 => ?_)
            · have hlt : j < m.its.length := by have := of_decide_eq_true hc90; omega
              obtain ⟨ad, x, rfl, hx, hx16, -⟩ := it_get (Kd.C_below hA HS.belowOf) j hlt
              have hxo := hio x (List.mem_of_getElem? hx)
              unfold itOk at hxo
              simp only [Bool.and_eq_true, decide_eq_true_eq] at hxo
              obtain ⟨⟨hx0, hx64⟩, -⟩ := hxo
              refine wp_skip ?_
              refine hK89 _ _ ?_
              refine wp_seq_k (fun K91 hK92 => ?_)
              refine wp_block ?_
              refine wp_seq_k (fun K93 hK94 => ?_)
              refine c_region (fun ops96 hops95 => ?_)
              clear hops95
              refine p_run _ (x_index (A := ad) (j := j * 18) (sz := 18) rfl rfl rfl Try.underlying30 (by kernel_rfl) (by omega) rfl) rfl ?_
              refine p_run _ (x_loads (Value.int .i64 x.1 :: Value.bool x.2.1 :: (nums .u8 (x.2.2.map bv))) 18 rfl rfl (it_cells (Kd.C_below hA HS.belowOf) hx) (by rfl) (by kernel_rfl) (by simp [List.length_map, hx16, nums_length])) rfl ?_
              refine St.wAlloc HS (cs := (Value.int .i64 0 :: Value.bool false :: (nums .u8 (zB16.map bv)))) (.agg (Value.int .i64 0 :: Value.bool false :: (nums .u8 (zB16.map bv))).toArray) (by kernel_rfl) rfl ?_
              clear HS
              intro g97 w98 hg99 HS
              refine St.stores (cs' := (Value.int .i64 x.1 :: Value.bool x.2.1 :: (nums .u8 (x.2.2.map bv)))) HS (Value.int .i64 x.1 :: Value.bool x.2.1 :: (nums .u8 (x.2.2.map bv))) 18 rfl rfl (all1 rfl (all1 rfl (nums_one _ _))) (by kernel_rfl) (by simp [List.length_map, hx16, nums_length]) (by simp [List.length_map, hx16, nums_length, zB16_len]) (lay_all _ _ (by simp [List.length_map, hx16, nums_length, zB16_len])) ?_
              clear HS
              intro w100 HS
              refine wpList_nil ?_
              refine fr_at (l' := (mgV m (some ad) c B d :: .pointer (some ⟨g5, 0, none⟩) :: .slice none 0 0 :: .int .i64 0 :: u4 :: undef :: .pointer (some ⟨g97, 0, none⟩) :: u7 :: undef :: undef :: mgV m (some ad) c B d :: .bool true :: .bool false :: .pointer (some ⟨g5, 0, none⟩) :: .int .i64 m.k :: .int .u64 (uv (UInt64.ofNat m.k.toNat)) :: V8.l qz48 (V8.l qz49 (V8.l qz50 (.slice (some ⟨g43, 0, none⟩) 2 2 :: v46 :: v46 :: .pointer (some ⟨g5, 9, none⟩) :: .int .u32 m.tk :: .int .u64 (uv (UInt64.ofNat m.tk.toNat)) :: .agg ([.int .u64 4, .int .u64 (uv (UInt64.ofNat m.tk.toNat))] : List Value).toArray :: .slice (some ⟨g55, 0, none⟩) 1 1 :: .slice A60 ((nB 4 m.tk).length) c61 :: v64 :: v64 :: .pointer (some ⟨g5, 10, none⟩) :: .slice (some ad) m.its.length c :: .int .i64 (m.its.length : Int) :: .int .u8 (bv (UInt8.ofNat (m.its.length : Int).toNat)) :: .slice (some ⟨g70, 0, none⟩) 1 1 :: v73 :: .pointer (some ⟨g5, 10, none⟩) :: .slice (some ad) m.its.length c :: .int .i64 (m.its.length : Int) :: .int .i64 (j : Int) :: .bool (decide ((j : Int) < (m.its.length : Int))) :: .pointer (some ((ad).add (j * 18))) :: .agg (Value.int .i64 x.1 :: Value.bool x.2.1 :: (nums .u8 (x.2.2.map bv))).toArray :: u64 :: u65 :: u66 :: u67 :: u68 :: u69 :: u70 :: u71 :: u72 :: u73 :: u74 :: u75 :: u76 :: u77 :: U16g2 (U8g2 (U4g2 (undef :: undef :: [])))))))) rfl ?_
              refine hK94 _ _ ?_
              refine wp_seq_k (fun K101 hK102 => ?_)
              refine c_region (fun ops104 hops103 => ?_)
              clear hops103
              refine p_run _ (x_assign (.int .u8 0) rfl rfl) rfl ?_
              refine wpList_nil ?_
              refine hK102 _ _ ?_
              refine wp_seq_k (fun K105 hK106 => ?_)
              have hT107 : ∀ (hv : UInt8) (q108 : V8) (w109 : World), St w (fun _ => False) w109 ([blk g97 (Value.int .i64 x.1 :: Value.bool x.2.1 :: (nums .u8 (x.2.2.map bv))) 53, row kByte rfl 5 u4 (h8 m j), blk g5 [.int .i64 m.k, .int .u32 m.e, .int .u64 m.s, .int .u32 m.te, .int .u32 m.ts, .int .u32 m.be, .int .u32 m.bs, .int .i64 m.ix, .int .i64 m.tt, .int .u32 m.tk, .slice (some ad) m.its.length c, .slice B m.hvs.length d] 33]) → ([hv] = nB 1 (if x.2.1 = true then 1 else 0)) → K105 (fr (mgV m (some ad) c B d :: .pointer (some ⟨g5, 0, none⟩) :: .slice none 0 0 :: .int .i64 0 :: u4 :: undef :: .pointer (some ⟨g97, 0, none⟩) :: .int .u8 (bv hv) :: undef :: undef :: mgV m (some ad) c B d :: .bool true :: .bool false :: .pointer (some ⟨g5, 0, none⟩) :: .int .i64 m.k :: .int .u64 (uv (UInt64.ofNat m.k.toNat)) :: V8.l qz48 (V8.l qz49 (V8.l qz50 (.slice (some ⟨g43, 0, none⟩) 2 2 :: v46 :: v46 :: .pointer (some ⟨g5, 9, none⟩) :: .int .u32 m.tk :: .int .u64 (uv (UInt64.ofNat m.tk.toNat)) :: .agg ([.int .u64 4, .int .u64 (uv (UInt64.ofNat m.tk.toNat))] : List Value).toArray :: .slice (some ⟨g55, 0, none⟩) 1 1 :: .slice A60 ((nB 4 m.tk).length) c61 :: v64 :: v64 :: .pointer (some ⟨g5, 10, none⟩) :: .slice (some ad) m.its.length c :: .int .i64 (m.its.length : Int) :: .int .u8 (bv (UInt8.ofNat (m.its.length : Int).toNat)) :: .slice (some ⟨g70, 0, none⟩) 1 1 :: v73 :: .pointer (some ⟨g5, 10, none⟩) :: .slice (some ad) m.its.length c :: .int .i64 (m.its.length : Int) :: .int .i64 (j : Int) :: .bool (decide ((j : Int) < (m.its.length : Int))) :: .pointer (some ((ad).add (j * 18))) :: .agg (Value.int .i64 x.1 :: Value.bool x.2.1 :: (nums .u8 (x.2.2.map bv))).toArray :: q108.a :: q108.b :: u66 :: u67 :: u68 :: u69 :: u70 :: u71 :: u72 :: u73 :: u74 :: u75 :: u76 :: u77 :: U16g2 (U8g2 (U4g2 (undef :: undef :: [])))))))) w109 := by
                clear HS
                intro hv q108 w109 HS hJ
                refine hK106 _ _ ?_
                have hh_ := hJ
                refine wp_seq_k (fun K110 hK111 => ?_)
                refine c_region (fun ops113 hops112 => ?_)
                clear hops112
                refine p_run _ (x_move (u4) rfl rfl) rfl ?_
                refine p_run _ (x_field (j := 0) _ _ rfl rfl Try.underlying53 rfl (by rfl) rfl) rfl ?_
                refine p_run _ (x_load (.int .i64 x.1) rfl rfl (bkCell (HS.get (.head _)) 0 _ rfl) (by rfl)) rfl ?_
                refine p_run _ (x_conv (k := .i64) (m := x.1) .u8 ((bv (UInt8.ofNat x.1.toNat))) rfl (by rw [Try.underlying3]; rfl) Try.underlying5 rfl (u8_conv (by omega) (by omega))) rfl ?_
                refine p_run _ (x_move (.int .u8 (bv hv)) rfl rfl) rfl ?_
                refine St.wLit HS (cs := [.int .u8 (bv (UInt8.ofNat x.1.toNat)), .int .u8 (bv hv)]) 1 (.int .u8 0) Try.underlying22 (by kernel_rfl) (by decide) (by kernel_rfl) ?_
                clear HS
                intro g114 w115 hg116 HS
                refine fr_to (l' := (mgV m (some ad) c B d :: .pointer (some ⟨g5, 0, none⟩) :: .slice none 0 0 :: .int .i64 0 :: u4 :: undef :: .pointer (some ⟨g97, 0, none⟩) :: .int .u8 (bv hv) :: undef :: undef :: mgV m (some ad) c B d :: .bool true :: .bool false :: .pointer (some ⟨g5, 0, none⟩) :: .int .i64 m.k :: .int .u64 (uv (UInt64.ofNat m.k.toNat)) :: V8.l qz48 (V8.l qz49 (V8.l qz50 (.slice (some ⟨g43, 0, none⟩) 2 2 :: v46 :: v46 :: .pointer (some ⟨g5, 9, none⟩) :: .int .u32 m.tk :: .int .u64 (uv (UInt64.ofNat m.tk.toNat)) :: .agg ([.int .u64 4, .int .u64 (uv (UInt64.ofNat m.tk.toNat))] : List Value).toArray :: .slice (some ⟨g55, 0, none⟩) 1 1 :: .slice A60 ((nB 4 m.tk).length) c61 :: v64 :: v64 :: .pointer (some ⟨g5, 10, none⟩) :: .slice (some ad) m.its.length c :: .int .i64 (m.its.length : Int) :: .int .u8 (bv (UInt8.ofNat (m.its.length : Int).toNat)) :: .slice (some ⟨g70, 0, none⟩) 1 1 :: v73 :: .pointer (some ⟨g5, 10, none⟩) :: .slice (some ad) m.its.length c :: .int .i64 (m.its.length : Int) :: .int .i64 (j : Int) :: .bool (decide ((j : Int) < (m.its.length : Int))) :: .pointer (some ((ad).add (j * 18))) :: .agg (Value.int .i64 x.1 :: Value.bool x.2.1 :: (nums .u8 (x.2.2.map bv))).toArray :: q108.a :: q108.b :: u4 :: .pointer (some ⟨g97, 0, none⟩) :: .int .i64 x.1 :: .int .u8 (bv (UInt8.ofNat x.1.toNat)) :: .int .u8 (bv hv) :: .slice (some ⟨g114, 0, none⟩) 2 2 :: u72 :: u73 :: u74 :: u75 :: u76 :: u77 :: U16g2 (U8g2 (U4g2 (undef :: undef :: [])))))))) rfl ?_
                replace HS := (HS.front 2 rfl)
                refine St.wAppend HS (.int .u8 0) 1 Try.underlying22 (by kernel_rfl) rfl (by decide) (by decide) [(UInt8.ofNat x.1.toNat), hv] _ _ _ rfl rfl (rd_blkn (xs := [(UInt8.ofNat x.1.toNat), hv]) (HS.get (.tail _ (.head _))) rfl (by decide)) (fun _ _ h => h) (by have := h8_len hw j; omega) ?_
                clear HS
                intro v117 w118 HS
                refine p_run _ (x_assign (v117) rfl rfl) rfl ?_
                refine wpList_nil ?_
                refine hK111 _ _ ?_
                skip
                · skip
                  rw [nB1' (x := x.1) (by omega) (by omega), hh_] at HS
                  refine c_region (fun ops120 hops119 => ?_)
                  clear hops119
                  refine p_run _ (x_move (v117) rfl rfl) rfl ?_
                  refine p_run _ (x_field (j := 2) _ _ rfl rfl Try.underlying53 rfl (by rfl) rfl) rfl ?_
                  refine p_run (.slice (some ⟨g97, 2, none⟩) 16 16) ((x_sliceArr (sz := 1) (L := none) (H := none) (lo := 0) (hi := 16) ⟨g97, 2, none⟩ rfl rfl Try.underlying51 (by kernel_rfl) rfl rfl (by omega) (by omega) (by first | rfl | (rw [if_neg (by omega), add_mk]; rfl))).trans rfl) rfl ?_
                  refine St.wAppend HS (.int .u8 0) 1 Try.underlying22 (by kernel_rfl) rfl (by decide) (by decide) x.2.2 _ _ _ rfl rfl (hx16 ▸ rd_sub (HS.get (.tail _ (.tail _ (.head _)))) 2 (by show (nums .u8 (x.2.2.map bv)).take x.2.2.length = _; exact List.take_of_length_le (by rw [nums_length, List.length_map]; exact Nat.le_refl _)) (by omega)) (fun _ _ h => h) (by have := h8_len hw j; simp only [List.length_append, nB_len]; omega) ?_
                  clear HS
                  intro v121 w122 HS
                  refine p_run (l' := (mgV m (some ad) c B d :: .pointer (some ⟨g5, 0, none⟩) :: .slice none 0 0 :: .int .i64 0 :: v121 :: undef :: .pointer (some ⟨g97, 0, none⟩) :: .int .u8 (bv hv) :: undef :: undef :: mgV m (some ad) c B d :: .bool true :: .bool false :: .pointer (some ⟨g5, 0, none⟩) :: .int .i64 m.k :: .int .u64 (uv (UInt64.ofNat m.k.toNat)) :: V8.l qz48 (V8.l qz49 (V8.l qz50 (.slice (some ⟨g43, 0, none⟩) 2 2 :: v46 :: v46 :: .pointer (some ⟨g5, 9, none⟩) :: .int .u32 m.tk :: .int .u64 (uv (UInt64.ofNat m.tk.toNat)) :: .agg ([.int .u64 4, .int .u64 (uv (UInt64.ofNat m.tk.toNat))] : List Value).toArray :: .slice (some ⟨g55, 0, none⟩) 1 1 :: .slice A60 ((nB 4 m.tk).length) c61 :: v64 :: v64 :: .pointer (some ⟨g5, 10, none⟩) :: .slice (some ad) m.its.length c :: .int .i64 (m.its.length : Int) :: .int .u8 (bv (UInt8.ofNat (m.its.length : Int).toNat)) :: .slice (some ⟨g70, 0, none⟩) 1 1 :: v73 :: .pointer (some ⟨g5, 10, none⟩) :: .slice (some ad) m.its.length c :: .int .i64 (m.its.length : Int) :: .int .i64 (j : Int) :: .bool (decide ((j : Int) < (m.its.length : Int))) :: .pointer (some ((ad).add (j * 18))) :: .agg (Value.int .i64 x.1 :: Value.bool x.2.1 :: (nums .u8 (x.2.2.map bv))).toArray :: q108.a :: q108.b :: u4 :: .pointer (some ⟨g97, 0, none⟩) :: .int .i64 x.1 :: .int .u8 (bv (UInt8.ofNat x.1.toNat)) :: .int .u8 (bv hv) :: .slice (some ⟨g114, 0, none⟩) 2 2 :: v117 :: v117 :: .pointer (some ⟨g97, 2, none⟩) :: .slice (some ⟨g97, 2, none⟩) 16 16 :: v121 :: u77 :: U16g2 (U8g2 (U4g2 (undef :: undef :: [])))))))) _ (x_assign (v121) rfl rfl) rfl ?_
                  refine wpList_nil ?_
                  refine hK92 _ _ ?_
                  refine c_region (fun ops124 hops123 => ?_)
                  clear hops123
                  refine p_run _ (x_arith (k := .i64) (m := (j : Int)) (n := 1) .add (((j + 1 : Nat) : Int)) rfl rfl rfl (show IntKind.i64.wrap ((j : Int) + 1) = ((j + 1 : Nat) : Int) from ((wr64' (by omega)).trans (by omega))) rfl) rfl ?_
                  refine p_run _ (x_move (.int .i64 ((j + 1 : Nat) : Int)) rfl rfl) rfl ?_
                  refine wpList_nil ?_
                  refine fr_at (l' := (mgV m (some ad) c B d :: .pointer (some ⟨g5, 0, none⟩) :: .slice none 0 0 :: .int .i64 0 :: v121 :: undef :: .pointer (some ⟨g97, 0, none⟩) :: .int .u8 (bv hv) :: undef :: undef :: mgV m (some ad) c B d :: .bool true :: .bool false :: .pointer (some ⟨g5, 0, none⟩) :: .int .i64 m.k :: .int .u64 (uv (UInt64.ofNat m.k.toNat)) :: V8.l qz48 (V8.l qz49 (V8.l qz50 (.slice (some ⟨g43, 0, none⟩) 2 2 :: v46 :: v46 :: .pointer (some ⟨g5, 9, none⟩) :: .int .u32 m.tk :: .int .u64 (uv (UInt64.ofNat m.tk.toNat)) :: .agg ([.int .u64 4, .int .u64 (uv (UInt64.ofNat m.tk.toNat))] : List Value).toArray :: .slice (some ⟨g55, 0, none⟩) 1 1 :: .slice A60 ((nB 4 m.tk).length) c61 :: v64 :: v64 :: .pointer (some ⟨g5, 10, none⟩) :: .slice (some ad) m.its.length c :: .int .i64 (m.its.length : Int) :: .int .u8 (bv (UInt8.ofNat (m.its.length : Int).toNat)) :: .slice (some ⟨g70, 0, none⟩) 1 1 :: v73 :: .pointer (some ⟨g5, 10, none⟩) :: .slice (some ad) m.its.length c :: .int .i64 (m.its.length : Int) :: .int .i64 ((j + 1 : Nat) : Int) :: .bool (decide ((j : Int) < (m.its.length : Int))) :: .pointer (some ((ad).add (j * 18))) :: .agg (Value.int .i64 x.1 :: Value.bool x.2.1 :: (nums .u8 (x.2.2.map bv))).toArray :: q108.a :: q108.b :: u4 :: .pointer (some ⟨g97, 0, none⟩) :: .int .i64 x.1 :: .int .u8 (bv (UInt8.ofNat x.1.toNat)) :: .int .u8 (bv hv) :: .slice (some ⟨g114, 0, none⟩) 2 2 :: v117 :: v117 :: .pointer (some ⟨g97, 2, none⟩) :: .slice (some ⟨g97, 2, none⟩) 16 16 :: v121 :: .int .i64 ((j + 1 : Nat) : Int) :: U16g2 (U8g2 (U4g2 (undef :: undef :: [])))))))) rfl ?_
                  rw [h8_step2 hx] at HS
                  refine hJ82 (j + 1, v121) _ _ ?_ ?_
                  · show m.its.length - (j + 1) < m.its.length - j; omega
                  · exact ⟨_, _, _, _, _, _, _, _, _, _, _, _, _, _, _, _, _, _, _, rfl, ((((HS.front 1 rfl).drop.front 1 rfl).drop.front 1 rfl).front 1 rfl), (by omega)⟩
              clear hK106
              refine wp_seq_k (fun K125 hK126 => ?_)
              refine c_region (fun ops128 hops127 => ?_)
              clear hops127
              refine p_run _ (x_field (j := 1) _ _ rfl rfl Try.underlying53 rfl (by rfl) rfl) rfl ?_
              refine p_run _ (x_load (.bool x.2.1) rfl rfl (bkCell (HS.get (.head _)) 1 _ rfl) (by rfl)) rfl ?_
              refine wpList_nil ?_
              refine hK126 _ _ ?_
              refine c_cond (t := x.2.1) rfl (fun hc129 => ?_) (fun hc129 => ?_)
              · refine c_region (fun ops131 hops130 => ?_)
                clear hops130
                refine p_run _ (x_assign (.int .u8 1) rfl rfl) rfl ?_
                refine wpList_nil ?_
                refine fr_at (l' := (mgV m (some ad) c B d :: .pointer (some ⟨g5, 0, none⟩) :: .slice none 0 0 :: .int .i64 0 :: u4 :: undef :: .pointer (some ⟨g97, 0, none⟩) :: .int .u8 1 :: undef :: undef :: mgV m (some ad) c B d :: .bool true :: .bool false :: .pointer (some ⟨g5, 0, none⟩) :: .int .i64 m.k :: .int .u64 (uv (UInt64.ofNat m.k.toNat)) :: V8.l qz48 (V8.l qz49 (V8.l qz50 (.slice (some ⟨g43, 0, none⟩) 2 2 :: v46 :: v46 :: .pointer (some ⟨g5, 9, none⟩) :: .int .u32 m.tk :: .int .u64 (uv (UInt64.ofNat m.tk.toNat)) :: .agg ([.int .u64 4, .int .u64 (uv (UInt64.ofNat m.tk.toNat))] : List Value).toArray :: .slice (some ⟨g55, 0, none⟩) 1 1 :: .slice A60 ((nB 4 m.tk).length) c61 :: v64 :: v64 :: .pointer (some ⟨g5, 10, none⟩) :: .slice (some ad) m.its.length c :: .int .i64 (m.its.length : Int) :: .int .u8 (bv (UInt8.ofNat (m.its.length : Int).toNat)) :: .slice (some ⟨g70, 0, none⟩) 1 1 :: v73 :: .pointer (some ⟨g5, 10, none⟩) :: .slice (some ad) m.its.length c :: .int .i64 (m.its.length : Int) :: .int .i64 (j : Int) :: .bool (decide ((j : Int) < (m.its.length : Int))) :: .pointer (some ((ad).add (j * 18))) :: .agg (Value.int .i64 x.1 :: Value.bool x.2.1 :: (nums .u8 (x.2.2.map bv))).toArray :: .pointer (some ⟨g97, 1, none⟩) :: .bool x.2.1 :: u66 :: u67 :: u68 :: u69 :: u70 :: u71 :: u72 :: u73 :: u74 :: u75 :: u76 :: u77 :: U16g2 (U8g2 (U4g2 (undef :: undef :: [])))))))) rfl ?_
                exact hT107 (1 : UInt8) ⟨.pointer (some ⟨g97, 1, none⟩), .bool x.2.1, undef, undef, undef, undef, undef, undef⟩ _ (((HS.front 2 rfl).front 2 rfl).front 2 rfl) (by rw [hc129]; rfl)
              · refine wp_skip ?_
                exact hT107 (0 : UInt8) ⟨.pointer (some ⟨g97, 1, none⟩), .bool x.2.1, undef, undef, undef, undef, undef, undef⟩ _ (((HS.front 2 rfl).front 2 rfl).front 2 rfl) (by rw [hc129]; rfl)
            · have hlt : j = m.its.length := by have := of_decide_eq_false hc90; omega
              subst hlt
              refine wp_exit ?_
              refine hK76 _ _ ?_
              refine wp_seq_k (fun K132 hK133 => ?_)
              refine c_region (fun ops135 hops134 => ?_)
              clear hops134
              refine p_run _ (x_move (u4) rfl rfl) rfl ?_
              refine p_run _ (x_field (j := 11) _ _ rfl rfl Try.underlying33 rfl (by rfl) rfl) rfl ?_
              refine p_run _ (x_load (.slice B m.hvs.length d) rfl rfl (bkCell (HS.get (.tail _ (.head _))) 11 _ rfl) (by rfl)) rfl ?_
              refine p_run _ (x_len rfl rfl Try.underlying31) rfl ?_
              refine p_run _ (x_conv (k := .i64) (m := (m.hvs.length : Int)) .u8 ((bv (UInt8.ofNat (m.hvs.length : Int).toNat))) rfl (by rw [Try.underlying3]; rfl) Try.underlying5 rfl (u8_conv (by omega) (by omega))) rfl ?_
              refine St.wLit1 HS [.int .u8 (bv (UInt8.ofNat (m.hvs.length : Int).toNat))] 1 (.int .u8 0) (.int .u8 (bv (UInt8.ofNat (m.hvs.length : Int).toNat))) Try.underlying22 (by kernel_rfl) (by decide) rfl rfl rfl ?_
              clear HS
              intro g136 w137 hg138 HS
              replace HS := (HS.front 1 rfl)
              refine St.wAppend HS (.int .u8 0) 1 Try.underlying22 (by kernel_rfl) rfl (by decide) (by decide) [(UInt8.ofNat (m.hvs.length : Int).toNat)] _ _ _ rfl rfl (rd_blkn (xs := [(UInt8.ofNat (m.hvs.length : Int).toNat)]) (HS.get (.tail _ (.head _))) rfl (by decide)) (fun _ _ h => h) (by have := h8_len hw m.its.length; omega) ?_
              clear HS
              intro v139 w140 HS
              refine fr_to (l' := (mgV m A c B d :: .pointer (some ⟨g5, 0, none⟩) :: .slice none 0 0 :: .int .i64 0 :: u4 :: undef :: u6 :: u7 :: undef :: undef :: mgV m A c B d :: .bool true :: .bool false :: .pointer (some ⟨g5, 0, none⟩) :: .int .i64 m.k :: .int .u64 (uv (UInt64.ofNat m.k.toNat)) :: V8.l qz48 (V8.l qz49 (V8.l qz50 (.slice (some ⟨g43, 0, none⟩) 2 2 :: v46 :: v46 :: .pointer (some ⟨g5, 9, none⟩) :: .int .u32 m.tk :: .int .u64 (uv (UInt64.ofNat m.tk.toNat)) :: .agg ([.int .u64 4, .int .u64 (uv (UInt64.ofNat m.tk.toNat))] : List Value).toArray :: .slice (some ⟨g55, 0, none⟩) 1 1 :: .slice A60 ((nB 4 m.tk).length) c61 :: v64 :: v64 :: .pointer (some ⟨g5, 10, none⟩) :: .slice A m.its.length c :: .int .i64 (m.its.length : Int) :: .int .u8 (bv (UInt8.ofNat (m.its.length : Int).toNat)) :: .slice (some ⟨g70, 0, none⟩) 1 1 :: v73 :: .pointer (some ⟨g5, 10, none⟩) :: .slice A m.its.length c :: .int .i64 (m.its.length : Int) :: .int .i64 (m.its.length : Int) :: .bool (decide ((m.its.length : Int) < (m.its.length : Int))) :: u62 :: u63 :: u64 :: u65 :: u66 :: u67 :: u68 :: u69 :: u70 :: u71 :: u72 :: u73 :: u74 :: u75 :: u76 :: u77 :: u4 :: .pointer (some ⟨g5, 11, none⟩) :: .slice B m.hvs.length d :: .int .i64 (m.hvs.length : Int) :: .int .u8 (bv (UInt8.ofNat (m.hvs.length : Int).toNat)) :: .slice (some ⟨g136, 0, none⟩) 1 1 :: v139 :: U16g2 (U4g2 (undef :: undef :: undef :: []))))))) rfl ?_
              refine p_run _ (x_assign (v139) rfl rfl) rfl ?_
              refine wpList_nil ?_
              refine hK133 _ _ ?_
              refine wp_seq_k (fun K141 hK142 => ?_)
              refine wp_seq_k (fun K143 hK144 => ?_)
              skip
              · skip
                rw [← nB1 (x := (m.hvs.length : Int)) (by omega) (by omega)] at HS
                replace HS : St _ _ _ (row kByte rfl _ _ (h9 m) :: _) := HS
                refine c_region (fun ops146 hops145 => ?_)
                clear hops145
                refine p_run _ (x_field (j := 11) _ _ rfl rfl Try.underlying33 rfl (by rfl) rfl) rfl ?_
                refine p_run _ (x_load (.slice B m.hvs.length d) rfl rfl (bkCell (HS.get (.tail _ (.tail _ (.head _)))) 11 _ rfl) (by rfl)) rfl ?_
                refine p_run _ (x_len rfl rfl Try.underlying31) rfl ?_
                refine p_run _ (x_move (.int .i64 0) rfl rfl) rfl ?_
                refine wpList_nil ?_
                obtain ⟨qz147, hqz147⟩ : ∃ q_ : V8, q_ = ⟨.slice (some ⟨g43, 0, none⟩) 2 2, v46, v46, .pointer (some ⟨g5, 9, none⟩), .int .u32 m.tk, .int .u64 (uv (UInt64.ofNat m.tk.toNat)), .agg ([.int .u64 4, .int .u64 (uv (UInt64.ofNat m.tk.toNat))] : List Value).toArray, .slice (some ⟨g55, 0, none⟩) 1 1⟩ := ⟨_, rfl⟩
                obtain ⟨qz148, hqz148⟩ : ∃ q_ : V8, q_ = ⟨.slice A60 ((nB 4 m.tk).length) c61, v64, v64, .pointer (some ⟨g5, 10, none⟩), .slice A m.its.length c, .int .i64 (m.its.length : Int), .int .u8 (bv (UInt8.ofNat (m.its.length : Int).toNat)), .slice (some ⟨g70, 0, none⟩) 1 1⟩ := ⟨_, rfl⟩
                obtain ⟨qz149, hqz149⟩ : ∃ q_ : V8, q_ = ⟨v73, .pointer (some ⟨g5, 10, none⟩), .slice A m.its.length c, .int .i64 (m.its.length : Int), .int .i64 (m.its.length : Int), .bool (decide ((m.its.length : Int) < (m.its.length : Int))), u62, u63⟩ := ⟨_, rfl⟩
                obtain ⟨qz150, hqz150⟩ : ∃ q_ : V8, q_ = ⟨u64, u65, u66, u67, u68, u69, u70, u71⟩ := ⟨_, rfl⟩
                obtain ⟨qz151, hqz151⟩ : ∃ q_ : V8, q_ = ⟨u72, u73, u74, u75, u76, u77, u4, .pointer (some ⟨g5, 11, none⟩)⟩ := ⟨_, rfl⟩
                refine fr_at (l' := (mgV m A c B d :: .pointer (some ⟨g5, 0, none⟩) :: .slice none 0 0 :: .int .i64 0 :: v139 :: undef :: u6 :: u7 :: undef :: undef :: mgV m A c B d :: .bool true :: .bool false :: .pointer (some ⟨g5, 0, none⟩) :: .int .i64 m.k :: .int .u64 (uv (UInt64.ofNat m.k.toNat)) :: V8.l qz48 (V8.l qz49 (V8.l qz50 (V8.l qz147 (V8.l qz148 (V8.l qz149 (V8.l qz150 (V8.l qz151 (.slice B m.hvs.length d :: .int .i64 (m.hvs.length : Int) :: .int .u8 (bv (UInt8.ofNat (m.hvs.length : Int).toNat)) :: .slice (some ⟨g136, 0, none⟩) 1 1 :: v139 :: .pointer (some ⟨g5, 11, none⟩) :: .slice B m.hvs.length d :: .int .i64 (m.hvs.length : Int) :: .int .i64 0 :: U16g2 (undef :: undef :: undef :: []))))))))))) (by subst hqz147 hqz148 hqz149 hqz150 hqz151; rfl) ?_
                refine hK144 _ _ ?_
                refine wp_block ?_
                refine c_loop (ι := Nat × Value) (fun i_ a_ w_ => match i_ with | (j, u4) => ∃ (u9 : Value) (u89 : Value) (u90 : Value) (u91 : Value) (u92 : Value) (u93 : Value) (u94 : Value) (u95 : Value) (u96 : Value) (u97 : Value) (u98 : Value) (u99 : Value) (u100 : Value) (u101 : Value) (u102 : Value) (u103 : Value) (u104 : Value) (u105 : Value), a_ = fr (mgV m A c B d :: .pointer (some ⟨g5, 0, none⟩) :: .slice none 0 0 :: .int .i64 0 :: u4 :: undef :: u6 :: u7 :: undef :: u9 :: mgV m A c B d :: .bool true :: .bool false :: .pointer (some ⟨g5, 0, none⟩) :: .int .i64 m.k :: .int .u64 (uv (UInt64.ofNat m.k.toNat)) :: V8.l qz48 (V8.l qz49 (V8.l qz50 (V8.l qz147 (V8.l qz148 (V8.l qz149 (V8.l qz150 (V8.l qz151 (.slice B m.hvs.length d :: .int .i64 (m.hvs.length : Int) :: .int .u8 (bv (UInt8.ofNat (m.hvs.length : Int).toNat)) :: .slice (some ⟨g136, 0, none⟩) 1 1 :: v139 :: .pointer (some ⟨g5, 11, none⟩) :: .slice B m.hvs.length d :: .int .i64 (m.hvs.length : Int) :: .int .i64 (j : Int) :: u89 :: u90 :: u91 :: u92 :: u93 :: u94 :: u95 :: u96 :: u97 :: u98 :: u99 :: u100 :: u101 :: u102 :: u103 :: u104 :: u105 :: undef :: undef :: []))))))))) ∧ St w (fun _ => False) w_ ([row kByte rfl 5 u4 (h10 m j), blk g5 [.int .i64 m.k, .int .u32 m.e, .int .u64 m.s, .int .u32 m.te, .int .u32 m.ts, .int .u32 m.be, .int .u32 m.bs, .int .i64 m.ix, .int .i64 m.tt, .int .u32 m.tk, .slice A m.its.length c, .slice B m.hvs.length d] 33]) ∧ (j ≤ m.hvs.length)) (fun i_ => match i_ with | (j, u4) => m.hvs.length - j) (0, v139) ?_ ?_
                · exact ⟨_, _, _, _, _, _, _, _, _, _, _, _, _, _, _, _, _, _, rfl, (by rw [h10_zero]; exact (((HS.front 1 rfl).drop.front 1 rfl).front 1 rfl)), Nat.zero_le _⟩
                · clear HS
                  rintro ⟨j, u4⟩ a_ w154 ⟨u9, u89, u90, u91, u92, u93, u94, u95, u96, u97, u98, u99, u100, u101, u102, u103, u104, u105, rfl, HS, hI⟩ J152 hJ153
                  have hjl := hI
                  refine wp_seq_k (fun K155 hK156 => ?_)
                  refine c_region (fun ops158 hops157 => ?_)
                  clear hops157
                  refine p_run _ (x_cmp (k := .i64) (m := (j : Int)) (n := (m.hvs.length : Int)) .lss (decide ((j : Int) < (m.hvs.length : Int))) rfl rfl rfl rfl rfl) rfl ?_
                  refine wpList_nil ?_
                  refine hK156 _ _ ?_
                  refine wp_seq_k (fun K159 hK160 => ?_)
                  refine c_cond (t := decide ((j : Int) < (m.hvs.length : Int))) rfl (fun hc161 => ?_) (fun hc161 => ?_)
                  · have hlt : j < m.hvs.length := by have := of_decide_eq_true hc161; omega
                    obtain ⟨ad, x, rfl, hx, -⟩ := hv_get (Kd.C_below hB HS.belowOf) j hlt
                    have hwx := hw.hvs x (List.mem_of_getElem? hx)
                    obtain ⟨⟨y1, y2⟩, ⟨y3, y4⟩, y5, y6⟩ := hw.hvs x (List.mem_of_getElem? hx)
                    refine wp_skip ?_
                    refine hK160 _ _ ?_
                    refine wp_seq_k (fun K162 hK163 => ?_)
                    refine wp_block ?_
                    refine wp_seq_k (fun K164 hK165 => ?_)
                    refine c_region (fun ops167 hops166 => ?_)
                    clear hops166
                    refine p_run _ (x_index (A := ad) (j := j * 3) (sz := 3) rfl rfl rfl Try.underlying31 (by kernel_rfl) (by omega) rfl) rfl ?_
                    refine p_run _ (x_loads [.int .u32 x.1, .int .u32 x.2.1, .int .u32 x.2.2] 3 rfl rfl (hv_cells (Kd.C_below hB HS.belowOf) hx) (by rfl) (by kernel_rfl) rfl) rfl ?_
                    refine St.wAlloc HS (cs := [.int .u32 0, .int .u32 0, .int .u32 0]) (.agg [.int .u32 0, .int .u32 0, .int .u32 0].toArray) (by kernel_rfl) rfl ?_
                    clear HS
                    intro g168 w169 hg170 HS
                    refine St.stores (cs' := [.int .u32 x.1, .int .u32 x.2.1, .int .u32 x.2.2]) HS [.int .u32 x.1, .int .u32 x.2.1, .int .u32 x.2.2] 3 rfl rfl (by rfl) (by kernel_rfl) rfl (by simp) rfl ?_
                    clear HS
                    intro w171 HS
                    refine wpList_nil ?_
                    refine fr_at (l' := (mgV m A c (some ad) d :: .pointer (some ⟨g5, 0, none⟩) :: .slice none 0 0 :: .int .i64 0 :: u4 :: undef :: u6 :: u7 :: undef :: .pointer (some ⟨g168, 0, none⟩) :: mgV m A c (some ad) d :: .bool true :: .bool false :: .pointer (some ⟨g5, 0, none⟩) :: .int .i64 m.k :: .int .u64 (uv (UInt64.ofNat m.k.toNat)) :: V8.l qz48 (V8.l qz49 (V8.l qz50 (V8.l qz147 (V8.l qz148 (V8.l qz149 (V8.l qz150 (V8.l qz151 (.slice (some ad) m.hvs.length d :: .int .i64 (m.hvs.length : Int) :: .int .u8 (bv (UInt8.ofNat (m.hvs.length : Int).toNat)) :: .slice (some ⟨g136, 0, none⟩) 1 1 :: v139 :: .pointer (some ⟨g5, 11, none⟩) :: .slice (some ad) m.hvs.length d :: .int .i64 (m.hvs.length : Int) :: .int .i64 (j : Int) :: .bool (decide ((j : Int) < (m.hvs.length : Int))) :: .pointer (some ((ad).add (j * 3))) :: .agg ([.int .u32 x.1, .int .u32 x.2.1, .int .u32 x.2.2] : List Value).toArray :: u92 :: u93 :: u94 :: u95 :: u96 :: u97 :: u98 :: u99 :: u100 :: u101 :: u102 :: u103 :: u104 :: u105 :: undef :: undef :: [])))))))))) rfl ?_
                    refine hK165 _ _ ?_
                    refine wp_seq_k (fun K172 hK173 => ?_)
                    refine c_region (fun ops175 hops174 => ?_)
                    clear hops174
                    refine p_run _ (x_move (u4) rfl rfl) rfl ?_
                    refine p_run _ (x_field (j := 0) _ _ rfl rfl Try.underlying55 rfl (by rfl) rfl) rfl ?_
                    refine p_run _ (x_loads [.int .u32 x.1, .int .u32 x.2.1] 2 rfl rfl (bkCells (HS.get (.head _)) 0 _ rfl) (by rfl) (by kernel_rfl) rfl) rfl ?_
                    refine St.wLit1 HS [.int .u32 x.1, .int .u32 x.2.1] 2 (.agg [.int .u32 0, .int .u32 0].toArray) (.agg ([.int .u32 x.1, .int .u32 x.2.1] : List Value).toArray) Try.underlying68 (by kernel_rfl) (by decide) rfl rfl rfl ?_
                    clear HS
                    intro g176 w177 hg178 HS
                    refine w_call [u4, .slice (some ⟨g176, 0, none⟩) 1 1] Try.func27 (by kernel_rfl) (by rfl) rfl ?_
                    replace HS := (HS.front 2 rfl)
                    obtain ⟨A179, c180, hv_, hsl_⟩ := Own.sl (row_own HS.hs.head)
                    subst hv_
                    refine (r3put_any _ _ c180 (h10 m j) hsl_ _ 1 [(x.1, x.2.1)] (lit_reads (HS.get (.tail _ (.head _))) (lb_reps1 _ x.1 x.2.1) (by simp)) (by intro y hy; rcases List.mem_singleton.1 hy with rfl; exact ⟨hwx.1, hwx.2.1⟩) (by simp only [List.length_cons, List.length_nil]; have := h10_len hw j; omega)).mono ?_
                    rintro e w182 ⟨v181, rfl, hk_⟩
                    clear hsl_
                    replace HS := HS.more hk_
                    clear hk_
                    refine ⟨_, rfl, ?_⟩
                    refine p_run _ (x_assign (v181) rfl rfl) rfl ?_
                    refine wpList_nil ?_
                    refine fr_at (l' := (mgV m A c (some ad) d :: .pointer (some ⟨g5, 0, none⟩) :: .slice none 0 0 :: .int .i64 0 :: v181 :: undef :: u6 :: u7 :: undef :: .pointer (some ⟨g168, 0, none⟩) :: mgV m A c (some ad) d :: .bool true :: .bool false :: .pointer (some ⟨g5, 0, none⟩) :: .int .i64 m.k :: .int .u64 (uv (UInt64.ofNat m.k.toNat)) :: V8.l qz48 (V8.l qz49 (V8.l qz50 (V8.l qz147 (V8.l qz148 (V8.l qz149 (V8.l qz150 (V8.l qz151 (.slice (some ad) m.hvs.length d :: .int .i64 (m.hvs.length : Int) :: .int .u8 (bv (UInt8.ofNat (m.hvs.length : Int).toNat)) :: .slice (some ⟨g136, 0, none⟩) 1 1 :: v139 :: .pointer (some ⟨g5, 11, none⟩) :: .slice (some ad) m.hvs.length d :: .int .i64 (m.hvs.length : Int) :: .int .i64 (j : Int) :: .bool (decide ((j : Int) < (m.hvs.length : Int))) :: .pointer (some ((ad).add (j * 3))) :: .agg ([.int .u32 x.1, .int .u32 x.2.1, .int .u32 x.2.2] : List Value).toArray :: .slice A179 ((h10 m j).length) c180 :: .pointer (some ⟨g168, 0, none⟩) :: .agg ([.int .u32 x.1, .int .u32 x.2.1] : List Value).toArray :: .slice (some ⟨g176, 0, none⟩) 1 1 :: v181 :: u97 :: u98 :: u99 :: u100 :: u101 :: u102 :: u103 :: u104 :: u105 :: undef :: undef :: [])))))))))) rfl ?_
                    refine hK173 _ _ ?_
                    refine c_region (fun ops184 hops183 => ?_)
                    clear hops183
                    refine p_run _ (x_move (v181) rfl rfl) rfl ?_
                    refine p_run _ (x_field (j := 2) _ _ rfl rfl Try.underlying55 rfl (by rfl) rfl) rfl ?_
                    refine p_run _ (x_load (.int .u32 x.2.2) rfl rfl (bkCell (HS.get (.tail _ (.tail _ (.tail _ (.head _))))) 2 _ rfl) (by rfl)) rfl ?_
                    refine p_run _ (x_conv (k := .u32) (m := x.2.2) .u64 ((uv (UInt64.ofNat x.2.2.toNat))) rfl (by rw [Try.underlying26]; rfl) Try.underlying27 rfl (u32_conv (by omega) (by omega))) rfl ?_
                    refine p_run _ (x_build [.int .u64 4, .int .u64 (uv (UInt64.ofNat x.2.2.toNat))] rfl (by kernel_rfl)) rfl ?_
                    refine St.wLit1 HS [.int .u64 4, .int .u64 (uv (UInt64.ofNat x.2.2.toNat))] 2 (.agg [.int .u64 0, .int .u64 0].toArray) (.agg ([.int .u64 4, .int .u64 (uv (UInt64.ofNat x.2.2.toNat))] : List Value).toArray) Try.underlying96 (by kernel_rfl) (by decide) rfl rfl rfl ?_
                    clear HS
                    intro g185 w186 hg187 HS
                    refine w_call [.slice (some ⟨g185, 0, none⟩) 1 1] Try.func26 (by kernel_rfl) (by rfl) rfl ?_
                    replace HS : St w (fun _ => False) w186 (blk g185 (nums .u64 (fsN [(4, UInt64.ofNat x.2.2.toNat)])) 66 :: row kByte rfl 5 v181 (h10 m j ++ [(x.1, x.2.1)].flatMap lbB) :: row kByte rfl 5 (.slice A179 ((h10 m j).length) c180) (h10 m j) :: blk g176 [.int .u32 x.1, .int .u32 x.2.1] 29 :: blk g168 [.int .u32 x.1, .int .u32 x.2.1, .int .u32 x.2.2] 55 :: blk g5 [.int .i64 m.k, .int .u32 m.e, .int .u64 m.s, .int .u32 m.te, .int .u32 m.ts, .int .u32 m.be, .int .u32 m.bs, .int .i64 m.ix, .int .i64 m.tt, .int .u32 m.tk, .slice A m.its.length c, .slice (some ad) m.hvs.length d] 33 :: []) := HS
                    refine (fields_any (fs := [(4, UInt64.ofNat x.2.2.toNat)]) HS (fw_cons (by decide) fw_nil) (by simp)).mono ?_
                    clear HS
                    rintro e w189 ⟨v188, rfl, HS⟩
                    rw [fsB_cons 4 (x := x.2.2) (by omega) (by omega), fsB_nil, List.append_nil] at HS
                    obtain ⟨A190, c191, hv192, hcp193, -⟩ := row_reads (HS.get (.head _))
                    subst hv192
                    refine ⟨_, rfl, ?_⟩
                    refine fr_to (l' := (mgV m A c (some ad) d :: .pointer (some ⟨g5, 0, none⟩) :: .slice none 0 0 :: .int .i64 0 :: v181 :: undef :: u6 :: u7 :: undef :: .pointer (some ⟨g168, 0, none⟩) :: mgV m A c (some ad) d :: .bool true :: .bool false :: .pointer (some ⟨g5, 0, none⟩) :: .int .i64 m.k :: .int .u64 (uv (UInt64.ofNat m.k.toNat)) :: V8.l qz48 (V8.l qz49 (V8.l qz50 (V8.l qz147 (V8.l qz148 (V8.l qz149 (V8.l qz150 (V8.l qz151 (.slice (some ad) m.hvs.length d :: .int .i64 (m.hvs.length : Int) :: .int .u8 (bv (UInt8.ofNat (m.hvs.length : Int).toNat)) :: .slice (some ⟨g136, 0, none⟩) 1 1 :: v139 :: .pointer (some ⟨g5, 11, none⟩) :: .slice (some ad) m.hvs.length d :: .int .i64 (m.hvs.length : Int) :: .int .i64 (j : Int) :: .bool (decide ((j : Int) < (m.hvs.length : Int))) :: .pointer (some ((ad).add (j * 3))) :: .agg ([.int .u32 x.1, .int .u32 x.2.1, .int .u32 x.2.2] : List Value).toArray :: .slice A179 ((h10 m j).length) c180 :: .pointer (some ⟨g168, 0, none⟩) :: .agg ([.int .u32 x.1, .int .u32 x.2.1] : List Value).toArray :: .slice (some ⟨g176, 0, none⟩) 1 1 :: v181 :: v181 :: .pointer (some ⟨g168, 2, none⟩) :: .int .u32 x.2.2 :: .int .u64 (uv (UInt64.ofNat x.2.2.toNat)) :: .agg ([.int .u64 4, .int .u64 (uv (UInt64.ofNat x.2.2.toNat))] : List Value).toArray :: .slice (some ⟨g185, 0, none⟩) 1 1 :: .slice A190 ((nB 4 x.2.2).length) c191 :: u104 :: u105 :: undef :: undef :: [])))))))))) rfl ?_
                    replace HS := (HS.front 2 rfl)
                    refine St.wAppend HS (.int .u8 0) 1 Try.underlying22 (by kernel_rfl) rfl (by decide) (by decide) (nB 4 x.2.2) _ _ _ rfl rfl (row_rd (HS.get (.tail _ (.head _)))).2.2 (fun _ _ h => h) (by have := h10_len hw j; have := nB_len 4 x.2.2; simp only [List.length_append, List.flatMap_cons, List.flatMap_nil, lbB_len, List.length_nil]; omega) ?_
                    clear HS
                    intro v194 w195 HS
                    refine p_run _ (x_assign (v194) rfl rfl) rfl ?_
                    refine wpList_nil ?_
                    refine hK163 _ _ ?_
                    refine c_region (fun ops197 hops196 => ?_)
                    clear hops196
                    refine p_run _ (x_arith (k := .i64) (m := (j : Int)) (n := 1) .add (((j + 1 : Nat) : Int)) rfl rfl rfl (show IntKind.i64.wrap ((j : Int) + 1) = ((j + 1 : Nat) : Int) from ((wr64' (by omega)).trans (by omega))) rfl) rfl ?_
                    refine p_run _ (x_move (.int .i64 ((j + 1 : Nat) : Int)) rfl rfl) rfl ?_
                    refine wpList_nil ?_
                    refine fr_at (l' := (mgV m A c (some ad) d :: .pointer (some ⟨g5, 0, none⟩) :: .slice none 0 0 :: .int .i64 0 :: v194 :: undef :: u6 :: u7 :: undef :: .pointer (some ⟨g168, 0, none⟩) :: mgV m A c (some ad) d :: .bool true :: .bool false :: .pointer (some ⟨g5, 0, none⟩) :: .int .i64 m.k :: .int .u64 (uv (UInt64.ofNat m.k.toNat)) :: V8.l qz48 (V8.l qz49 (V8.l qz50 (V8.l qz147 (V8.l qz148 (V8.l qz149 (V8.l qz150 (V8.l qz151 (.slice (some ad) m.hvs.length d :: .int .i64 (m.hvs.length : Int) :: .int .u8 (bv (UInt8.ofNat (m.hvs.length : Int).toNat)) :: .slice (some ⟨g136, 0, none⟩) 1 1 :: v139 :: .pointer (some ⟨g5, 11, none⟩) :: .slice (some ad) m.hvs.length d :: .int .i64 (m.hvs.length : Int) :: .int .i64 ((j + 1 : Nat) : Int) :: .bool (decide ((j : Int) < (m.hvs.length : Int))) :: .pointer (some ((ad).add (j * 3))) :: .agg ([.int .u32 x.1, .int .u32 x.2.1, .int .u32 x.2.2] : List Value).toArray :: .slice A179 ((h10 m j).length) c180 :: .pointer (some ⟨g168, 0, none⟩) :: .agg ([.int .u32 x.1, .int .u32 x.2.1] : List Value).toArray :: .slice (some ⟨g176, 0, none⟩) 1 1 :: v181 :: v181 :: .pointer (some ⟨g168, 2, none⟩) :: .int .u32 x.2.2 :: .int .u64 (uv (UInt64.ofNat x.2.2.toNat)) :: .agg ([.int .u64 4, .int .u64 (uv (UInt64.ofNat x.2.2.toNat))] : List Value).toArray :: .slice (some ⟨g185, 0, none⟩) 1 1 :: .slice A190 ((nB 4 x.2.2).length) c191 :: v194 :: .int .i64 ((j + 1 : Nat) : Int) :: undef :: undef :: [])))))))))) rfl ?_
                    rw [h10_step hx] at HS
                    refine hJ153 (j + 1, v194) _ _ ?_ ?_
                    · show m.hvs.length - (j + 1) < m.hvs.length - j; omega
                    · exact ⟨_, _, _, _, _, _, _, _, _, _, _, _, _, _, _, _, _, _, rfl, (((((((HS.front 1 rfl).drop.front 1 rfl).drop.front 1 rfl).drop.front 1 rfl).drop.front 1 rfl).drop.front 1 rfl).front 1 rfl), (by omega)⟩
                  · have hlt : j = m.hvs.length := by have := of_decide_eq_false hc161; omega
                    subst hlt
                    rw [h_end] at HS
                    refine wp_exit ?_
                    refine hK142 _ _ ?_
                    refine wp_seq_k (fun K198 hK199 => ?_)
                    refine c_region (fun ops201 hops200 => ?_)
                    clear hops200
                    refine p_run _ (x_move (u4) rfl rfl) rfl ?_
                    refine w_call [u4] Try.func28 (by kernel_rfl) (by rfl) rfl ?_
                    refine (rsealR_any HS (sealB (mgB m)).length rfl (by rw [sealB_length, mgB_len hw]; omega)).mono ?_
                    clear HS
                    rintro e w204 ⟨oa202, nc203, rfl, HS⟩
                    refine ⟨_, rfl, ?_⟩
                    refine p_run _ (x_assign (.slice oa202 ((sealB (mgB m)).length) nc203) rfl rfl) rfl ?_
                    refine p_run _ (x_assign (.int .i64 0) rfl rfl) rfl ?_
                    refine wpList_nil ?_
                    obtain ⟨qz205, hqz205⟩ : ∃ q_ : V8, q_ = ⟨undef, u9, mgV m A c B d, .bool true, .bool false, .pointer (some ⟨g5, 0, none⟩), .int .i64 m.k, .int .u64 (uv (UInt64.ofNat m.k.toNat))⟩ := ⟨_, rfl⟩
                    obtain ⟨qz206, hqz206⟩ : ∃ q_ : V8, q_ = ⟨.slice B m.hvs.length d, .int .i64 (m.hvs.length : Int), .int .u8 (bv (UInt8.ofNat (m.hvs.length : Int).toNat)), .slice (some ⟨g136, 0, none⟩) 1 1, v139, .pointer (some ⟨g5, 11, none⟩), .slice B m.hvs.length d, .int .i64 (m.hvs.length : Int)⟩ := ⟨_, rfl⟩
                    obtain ⟨qz207, hqz207⟩ : ∃ q_ : V8, q_ = ⟨.int .i64 (m.hvs.length : Int), .bool (decide ((m.hvs.length : Int) < (m.hvs.length : Int))), u90, u91, u92, u93, u94, u95⟩ := ⟨_, rfl⟩
                    obtain ⟨qz208, hqz208⟩ : ∃ q_ : V8, q_ = ⟨u96, u97, u98, u99, u100, u101, u102, u103⟩ := ⟨_, rfl⟩
                    refine fr_at (l' := (mgV m A c B d :: .pointer (some ⟨g5, 0, none⟩) :: .slice oa202 ((sealB (mgB m)).length) nc203 :: .int .i64 0 :: u4 :: undef :: u6 :: u7 :: V8.l qz205 (V8.l qz48 (V8.l qz49 (V8.l qz50 (V8.l qz147 (V8.l qz148 (V8.l qz149 (V8.l qz150 (V8.l qz151 (V8.l qz206 (V8.l qz207 (V8.l qz208 (u104 :: u105 :: u4 :: .slice oa202 ((sealB (mgB m)).length) nc203 :: [])))))))))))))) (by subst hqz205 hqz206 hqz207 hqz208; rfl) ?_
                    refine hK199 _ _ ?_
                    refine wp_ret ?_
                    try simp only [Exit.inBlock, Exit.then]
                    refine c_ret (.tuple [.slice oa202 ((sealB (mgB m)).length) nc203, .int .i64 0].toArray) (r_tmp2 rfl rfl rfl) ?_
                    have e1 : fbB m = sealB (mgB m) := if_pos hok
                    have e2 : fbE m = 0 := if_pos hok
                    rw [e1, e2]
                    exact ⟨_, _, rfl, ((HS.front 1 rfl).drop.front 1 rfl).drop⟩
end Go.Proofs.Ytmachdikonelbaa
