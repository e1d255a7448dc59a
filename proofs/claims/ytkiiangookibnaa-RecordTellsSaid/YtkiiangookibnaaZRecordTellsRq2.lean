/- The document's Put of labels, Bytes of states. -/
import Derived.Test.YtkiiangookibnaaZRecordTellsRq1
import Derived.Test.YtkiiangookibnaaZRecordTellsRk2
import Derived.Test.YtkiiangookibnaaZRecordTellsRby
set_option linter.unusedVariables false
set_option linter.unusedSimpArgs false
namespace Go.Proofs.Ytkiiangookibnaa
open Go.RowKit Go.Proofs.YtkiiangookibnaaW.PrintWords Go.Proofs.YtkiiangookibnaaW.PrintLast
abbrev U4n2 (l : List Value) : List Value := undef :: undef :: undef :: undef :: l
abbrev U8n2 (l : List Value) : List Value := U4n2 (U4n2 l)
abbrev U16n2 (l : List Value) : List Value := U8n2 (U8n2 l)
abbrev U32n2 (l : List Value) : List Value := U16n2 (U16n2 l)
abbrev U64n2 (l : List Value) : List Value := U32n2 (U32n2 l)
theorem fsB_cons (W : Nat) {x : Int} (h : 0 ≤ x) (h2 : x < 18446744073709551616) (l : List (Nat × UInt64)) : fsB ((W, UInt64.ofNat x.toNat) :: l) = nB W x ++ fsB l := by
  unfold fsB nB
  rw [List.flatMap_cons, nat_of h h2]
theorem fsB_nil : fsB [] = [] := rfl
theorem fw_nil : ∀ f ∈ ([] : List (Nat × UInt64)), f.1 ≤ 8 := fun f h => by cases h
theorem fw_cons {a : Nat} {x : UInt64} {l : List (Nat × UInt64)} (h : a ≤ 8) (hl : ∀ f ∈ l, f.1 ≤ 8) : ∀ f ∈ (a, x) :: l, f.1 ≤ 8 := fun f hf => by
  rcases List.mem_cons.1 hf with rfl | hf
  · exact h
  · exact hl f hf
theorem lb_snoc2 {l : List Lb} {j : Nat} {x : Lb} (hx : l[j]? = some x) (xs : List UInt8) : xs ++ (l.take j).flatMap lbB ++ (nB 4 x.1 ++ nB 4 x.2) = xs ++ (l.take (j + 1)).flatMap lbB := by
  have := lb_snoc hx
  rw [List.append_nil] at this
  rw [List.append_assoc, this]
theorem nB1 {x : Int} (h : 0 ≤ x) (h2 : x < 256) : nB 1 x = [UInt8.ofNat x.toNat] := by
  unfold nB leB leB
  rw [Nat.mod_eq_of_lt (by omega)]
theorem u8_conv {x : Int} (h : 0 ≤ x) (h2 : x < 256) : IntKind.u8.wrap x = bv (UInt8.ofNat x.toNat) := by
  unfold bv
  rw [IntKind.wrap_u8, UInt8.toNat_ofNat']
  omega
theorem nB1' {x : Int} (h : 0 ≤ x) (h2 : x < 256) (l : List UInt8) : UInt8.ofNat x.toNat :: l = nB 1 x ++ l := by rw [nB1 h h2]; rfl
theorem q4_eq {r : Rc} {hv : Int} (h : hv = (if r.p = true then 1 else 0)) : nB 4 r.e ++ (nB 1 hv ++ (nB 4 r.b ++ (nB 4 r.q ++ nB 1 (r.l + 1)))) = q4 r := by
  rw [h]
  unfold q4 q3 q2 q1
  simp only [List.append_assoc, List.append_nil]
theorem q7_step2 {r : Rc} {j : Nat} {x : Sn} (hx : r.sn[j]? = some x) : q7 r j ++ [(x.1, x.2.1)].flatMap lbB ++ (nB 1 (x.2.2.1 + 1) ++ nB 4 x.2.2.2) = q7 r (j + 1) := by rw [← q7_step hx, List.append_assoc, List.append_assoc, List.append_assoc]
set_option maxRecDepth 10000 in
set_option maxHeartbeats 2000000 in
theorem r3put_any (w : World) (A : Option Addr) (c : Nat) (xs : List UInt8) (hr : Sl w A c xs) (B : Option Addr) (d : Nat) (l : List Lb) (hB : kLb.C w B l.length l) (hu : ∀ x ∈ l, u32 x.1 ∧ u32 x.2) (hx : xs.length + 16 * l.length ≤ 90000) : Calls Try.prog 38 #[.slice A xs.length c, .slice B l.length d] w fun e w' => ∃ v, e = .returned v ∧ St w (fun _ => False) w' [row kByte rfl 5 v (xs ++ l.flatMap lbB)] := by
  have HS := St.empty w
  · skip
    refine c_enter Try.func38 rfl 31 rfl (.slice A xs.length c :: .slice B l.length d :: U16n2 (U8n2 (U4n2 (undef :: [])))) rfl ?_
    refine wp_seq_k (fun K1 hK2 => ?_)
    refine c_region (fun ops4 hops3 => ?_)
    clear hops3
    refine p_run _ (x_assign (.slice none 0 0) rfl rfl) rfl ?_
    refine wpList_nil ?_
    refine hK2 _ _ ?_
    refine wp_seq_k (fun K5 hK6 => ?_)
    refine c_region (fun ops8 hops7 => ?_)
    clear hops7
    refine St.wLit0 HS kByte rfl 1 (.int .u8 0) Try.underlying22 (by kernel_rfl) ?_
    clear HS
    intro v9 w10 HS
    refine p_run _ (x_move (.slice A xs.length c) rfl rfl) rfl ?_
    refine St.wAppend HS (.int .u8 0) 1 Try.underlying22 (by kernel_rfl) rfl (by decide) (by decide) xs _ _ _ rfl rfl (hr.below HS.belowOf).rd (fun _ _ h => h) (by simp only [List.length_nil]; omega) ?_
    clear HS
    intro v11 w12 HS
    refine p_run _ (x_assign (v11) rfl rfl) rfl ?_
    refine wpList_nil ?_
    refine fr_at (l' := (.slice A xs.length c :: .slice B l.length d :: undef :: undef :: .slice none 0 0 :: v11 :: undef :: undef :: v9 :: .slice A xs.length c :: v11 :: U16n2 (U4n2 ([])))) rfl ?_
    refine hK6 _ _ ?_
    refine wp_seq_k (fun K13 hK14 => ?_)
    refine wp_seq_k (fun K15 hK16 => ?_)
    rw [List.nil_append] at HS
    · skip
      refine c_region (fun ops18 hops17 => ?_)
      clear hops17
      refine p_run _ (x_move (.slice B l.length d) rfl rfl) rfl ?_
      refine p_run _ (x_len rfl rfl Try.underlying81) rfl ?_
      refine p_run _ (x_move (.int .i64 0) rfl rfl) rfl ?_
      refine wpList_nil ?_
      refine fr_at (l' := (.slice A xs.length c :: .slice B l.length d :: undef :: undef :: .slice none 0 0 :: v11 :: undef :: undef :: v9 :: .slice A xs.length c :: v11 :: .slice B l.length d :: .int .i64 (l.length : Int) :: .int .i64 0 :: U16n2 (undef :: []))) rfl ?_
      refine hK16 _ _ ?_
      refine wp_block ?_
      refine c_loop (ι := Nat × Value) (fun i_ a_ w_ => match i_ with | (j, u5) => ∃ (u7 : Value) (u14 : Value) (u15 : Value) (u16 : Value) (u17 : Value) (u18 : Value) (u19 : Value) (u20 : Value) (u21 : Value) (u22 : Value) (u23 : Value) (u24 : Value) (u25 : Value) (u26 : Value) (u27 : Value) (u28 : Value) (u29 : Value), a_ = fr (.slice A xs.length c :: .slice B l.length d :: undef :: undef :: .slice none 0 0 :: u5 :: undef :: u7 :: v9 :: .slice A xs.length c :: v11 :: .slice B l.length d :: .int .i64 (l.length : Int) :: .int .i64 (j : Int) :: u14 :: u15 :: u16 :: u17 :: u18 :: u19 :: u20 :: u21 :: u22 :: u23 :: u24 :: u25 :: u26 :: u27 :: u28 :: u29 :: undef :: []) ∧ St w (fun _ => False) w_ ([row kByte rfl 5 u5 (xs ++ (l.take j).flatMap lbB)]) ∧ (j ≤ l.length)) (fun i_ => match i_ with | (j, u5) => l.length - j) (0, v11) ?_ ?_
      · exact ⟨_, _, _, _, _, _, _, _, _, _, _, _, _, _, _, _, _, rfl, (by rw [List.take_zero, List.flatMap_nil, List.append_nil]; exact HS), (by omega)⟩
      · clear HS
        rintro ⟨j, u5⟩ a_ w21 ⟨u7, u14, u15, u16, u17, u18, u19, u20, u21, u22, u23, u24, u25, u26, u27, u28, u29, rfl, HS, hI⟩ J19 hJ20
        have hjl := hI
        refine wp_seq_k (fun K22 hK23 => ?_)
        refine c_region (fun ops25 hops24 => ?_)
        clear hops24
        refine p_run _ (x_cmp (k := .i64) (m := (j : Int)) (n := (l.length : Int)) .lss (decide ((j : Int) < (l.length : Int))) rfl rfl rfl rfl rfl) rfl ?_
        refine wpList_nil ?_
        refine hK23 _ _ ?_
        refine wp_seq_k (fun K26 hK27 => ?_)
        refine c_cond (t := decide ((j : Int) < (l.length : Int))) rfl (fun hc28 => ?_) (fun hc28 => ?_)
        · have hlt : j < l.length := by have := of_decide_eq_true hc28; omega
          obtain ⟨ad, x, rfl, hx, hcell⟩ := lb_get (Kd.C_below hB HS.belowOf) j hlt
          obtain ⟨⟨u1, u2⟩, u3, u4⟩ := hu x (List.mem_of_getElem? hx)
          have hle := lb_le l j
          refine wp_skip ?_
          refine hK27 _ _ ?_
          refine wp_seq_k (fun K29 hK30 => ?_)
          refine wp_block ?_
          refine wp_seq_k (fun K31 hK32 => ?_)
          refine c_region (fun ops34 hops33 => ?_)
          clear hops33
          refine p_run _ (x_index (A := ad) (j := j * 2) (sz := 2) rfl rfl rfl Try.underlying81 (by kernel_rfl) (by omega) rfl) rfl ?_
          refine p_run _ (x_loads [.int .u32 x.1, .int .u32 x.2] 2 rfl rfl hcell (by rfl) (by kernel_rfl) rfl) rfl ?_
          refine St.wAlloc HS (cs := [.int .u32 0, .int .u32 0]) (.agg [.int .u32 0, .int .u32 0].toArray) (by kernel_rfl) rfl ?_
          clear HS
          intro g35 w36 hg37 HS
          refine St.stores (cs' := [.int .u32 x.1, .int .u32 x.2]) HS [.int .u32 x.1, .int .u32 x.2] 2 rfl rfl (by rfl) (by kernel_rfl) rfl (by simp) rfl ?_
          clear HS
          intro w38 HS
          refine wpList_nil ?_
          refine fr_at (l' := (.slice A xs.length c :: .slice (some ad) l.length d :: undef :: undef :: .slice none 0 0 :: u5 :: undef :: .pointer (some ⟨g35, 0, none⟩) :: v9 :: .slice A xs.length c :: v11 :: .slice (some ad) l.length d :: .int .i64 (l.length : Int) :: .int .i64 (j : Int) :: .bool (decide ((j : Int) < (l.length : Int))) :: .pointer (some ((ad).add (j * 2))) :: .agg ([.int .u32 x.1, .int .u32 x.2] : List Value).toArray :: u17 :: u18 :: u19 :: u20 :: u21 :: u22 :: u23 :: u24 :: u25 :: u26 :: u27 :: u28 :: u29 :: undef :: [])) rfl ?_
          refine hK32 _ _ ?_
          refine c_region (fun ops40 hops39 => ?_)
          clear hops39
          refine p_run _ (x_move (u5) rfl rfl) rfl ?_
          refine p_run _ (x_field (j := 0) _ _ rfl rfl Try.underlying28 rfl (by rfl) rfl) rfl ?_
          refine p_run _ (x_load (.int .u32 x.1) rfl rfl (bkCell (HS.get (.head _)) 0 _ rfl) (by rfl)) rfl ?_
          refine p_run _ (x_conv (k := .u32) (m := x.1) .u64 ((uv (UInt64.ofNat x.1.toNat))) rfl (by rw [Try.underlying26]; rfl) Try.underlying30 rfl (u32_conv u1 (by omega))) rfl ?_
          refine p_run _ (x_build [.int .u64 4, .int .u64 (uv (UInt64.ofNat x.1.toNat))] rfl (by kernel_rfl)) rfl ?_
          refine p_run _ (x_field (j := 1) _ _ rfl rfl Try.underlying28 rfl (by rfl) rfl) rfl ?_
          refine p_run (l' := (.slice A xs.length c :: .slice (some ad) l.length d :: undef :: undef :: .slice none 0 0 :: u5 :: undef :: .pointer (some ⟨g35, 0, none⟩) :: v9 :: .slice A xs.length c :: v11 :: .slice (some ad) l.length d :: .int .i64 (l.length : Int) :: .int .i64 (j : Int) :: .bool (decide ((j : Int) < (l.length : Int))) :: .pointer (some ((ad).add (j * 2))) :: .agg ([.int .u32 x.1, .int .u32 x.2] : List Value).toArray :: u5 :: .pointer (some ⟨g35, 0, none⟩) :: .int .u32 x.1 :: .int .u64 (uv (UInt64.ofNat x.1.toNat)) :: .agg ([.int .u64 4, .int .u64 (uv (UInt64.ofNat x.1.toNat))] : List Value).toArray :: .pointer (some ⟨g35, 1, none⟩) :: .int .u32 x.2 :: u24 :: u25 :: u26 :: u27 :: u28 :: u29 :: undef :: [])) _ (x_load (.int .u32 x.2) rfl rfl (bkCell (HS.get (.head _)) 1 _ rfl) (by rfl)) rfl ?_
          refine p_run _ (x_conv (k := .u32) (m := x.2) .u64 ((uv (UInt64.ofNat x.2.toNat))) rfl (by rw [Try.underlying26]; rfl) Try.underlying30 rfl (u32_conv u3 (by omega))) rfl ?_
          refine p_run _ (x_build [.int .u64 4, .int .u64 (uv (UInt64.ofNat x.2.toNat))] rfl (by kernel_rfl)) rfl ?_
          refine St.wLit HS (cs := [.int .u64 4, .int .u64 (uv (UInt64.ofNat x.1.toNat)), .int .u64 4, .int .u64 (uv (UInt64.ofNat x.2.toNat))]) 2 (.agg [.int .u64 0, .int .u64 0].toArray) Try.underlying101 (by kernel_rfl) (by decide) (by kernel_rfl) ?_
          clear HS
          intro g41 w42 hg43 HS
          refine w_call [.slice (some ⟨g41, 0, none⟩) 2 2] Try.func37 (by kernel_rfl) (by rfl) rfl ?_
          replace HS : St w (fun _ => False) w42 (blk g41 (nums .u64 (fsN [(4, UInt64.ofNat x.1.toNat), (4, UInt64.ofNat x.2.toNat)])) 79 :: blk g35 [.int .u32 x.1, .int .u32 x.2] 28 :: row kByte rfl 5 u5 (xs ++ (l.take j).flatMap lbB) :: []) := HS
          refine (fields_any (fs := [(4, UInt64.ofNat x.1.toNat), (4, UInt64.ofNat x.2.toNat)]) HS (fw_cons (by decide) (fw_cons (by decide) fw_nil)) (by simp)).mono ?_
          clear HS
          rintro e w45 ⟨v44, rfl, HS⟩
          rw [fsB_cons 4 (x := x.1) (by omega) (by omega), fsB_cons 4 (x := x.2) (by omega) (by omega), fsB_nil, List.append_nil] at HS
          obtain ⟨A46, c47, hv48, hcp49, -⟩ := row_reads (HS.get (.head _))
          subst hv48
          refine ⟨_, rfl, ?_⟩
          replace HS := (HS.front 3 rfl)
          refine St.wAppend HS (.int .u8 0) 1 Try.underlying22 (by kernel_rfl) rfl (by decide) (by decide) (nB 4 x.1 ++ (nB 4 x.2)) _ _ _ rfl rfl (row_rd (HS.get (.tail _ (.head _)))).2.2 (fun _ _ h => h) (by have := nB_len 4 x.1; have := nB_len 4 x.2; simp only [List.length_append]; omega) ?_
          clear HS
          intro v50 w51 HS
          refine p_run _ (x_assign (v50) rfl rfl) rfl ?_
          refine wpList_nil ?_
          refine fr_at (l' := (.slice A xs.length c :: .slice (some ad) l.length d :: undef :: undef :: .slice none 0 0 :: v50 :: undef :: .pointer (some ⟨g35, 0, none⟩) :: v9 :: .slice A xs.length c :: v11 :: .slice (some ad) l.length d :: .int .i64 (l.length : Int) :: .int .i64 (j : Int) :: .bool (decide ((j : Int) < (l.length : Int))) :: .pointer (some ((ad).add (j * 2))) :: .agg ([.int .u32 x.1, .int .u32 x.2] : List Value).toArray :: u5 :: .pointer (some ⟨g35, 0, none⟩) :: .int .u32 x.1 :: .int .u64 (uv (UInt64.ofNat x.1.toNat)) :: .agg ([.int .u64 4, .int .u64 (uv (UInt64.ofNat x.1.toNat))] : List Value).toArray :: .pointer (some ⟨g35, 1, none⟩) :: .int .u32 x.2 :: .int .u64 (uv (UInt64.ofNat x.2.toNat)) :: .agg ([.int .u64 4, .int .u64 (uv (UInt64.ofNat x.2.toNat))] : List Value).toArray :: .slice (some ⟨g41, 0, none⟩) 2 2 :: .slice A46 ((nB 4 x.1 ++ (nB 4 x.2)).length) c47 :: v50 :: u29 :: undef :: [])) rfl ?_
          refine hK30 _ _ ?_
          refine c_region (fun ops53 hops52 => ?_)
          clear hops52
          refine p_run _ (x_arith (k := .i64) (m := (j : Int)) (n := 1) .add (((j + 1 : Nat) : Int)) rfl rfl rfl (show IntKind.i64.wrap ((j : Int) + 1) = ((j + 1 : Nat) : Int) from ((wr64' (by omega)).trans (by omega))) rfl) rfl ?_
          refine p_run _ (x_move (.int .i64 ((j + 1 : Nat) : Int)) rfl rfl) rfl ?_
          refine wpList_nil ?_
          refine fr_at (l' := (.slice A xs.length c :: .slice (some ad) l.length d :: undef :: undef :: .slice none 0 0 :: v50 :: undef :: .pointer (some ⟨g35, 0, none⟩) :: v9 :: .slice A xs.length c :: v11 :: .slice (some ad) l.length d :: .int .i64 (l.length : Int) :: .int .i64 ((j + 1 : Nat) : Int) :: .bool (decide ((j : Int) < (l.length : Int))) :: .pointer (some ((ad).add (j * 2))) :: .agg ([.int .u32 x.1, .int .u32 x.2] : List Value).toArray :: u5 :: .pointer (some ⟨g35, 0, none⟩) :: .int .u32 x.1 :: .int .u64 (uv (UInt64.ofNat x.1.toNat)) :: .agg ([.int .u64 4, .int .u64 (uv (UInt64.ofNat x.1.toNat))] : List Value).toArray :: .pointer (some ⟨g35, 1, none⟩) :: .int .u32 x.2 :: .int .u64 (uv (UInt64.ofNat x.2.toNat)) :: .agg ([.int .u64 4, .int .u64 (uv (UInt64.ofNat x.2.toNat))] : List Value).toArray :: .slice (some ⟨g41, 0, none⟩) 2 2 :: .slice A46 ((nB 4 x.1 ++ (nB 4 x.2)).length) c47 :: v50 :: .int .i64 ((j + 1 : Nat) : Int) :: undef :: [])) rfl ?_
          rw [lb_snoc2 hx] at HS
          refine hJ20 (j + 1, v50) _ _ ?_ ?_
          · show l.length - (j + 1) < l.length - j; omega
          · exact ⟨_, _, _, _, _, _, _, _, _, _, _, _, _, _, _, _, _, rfl, (((HS.front 1 rfl).drop.front 1 rfl).drop.front 1 rfl).drop, (by omega)⟩
        · have hlt : j = l.length := by have := of_decide_eq_false hc28; omega
          subst hlt
          rw [List.take_length] at HS
          refine wp_exit ?_
          refine hK14 _ _ ?_
          refine wp_seq_k (fun K54 hK55 => ?_)
          refine c_region (fun ops57 hops56 => ?_)
          clear hops56
          refine p_run _ (x_move (u5) rfl rfl) rfl ?_
          refine p_run _ (x_assign (u5) rfl rfl) rfl ?_
          refine wpList_nil ?_
          refine hK55 _ _ ?_
          refine wp_ret ?_
          try simp only [Exit.inBlock, Exit.then]
          refine c_ret (u5) (r_tmp rfl rfl) ?_
          exact ⟨_, rfl, HS⟩
set_option maxRecDepth 10000 in
set_option maxHeartbeats 8000000 in
theorem r14bytes_law (w : World) (r : Rc) (A : Option Addr) (c : Nat) (hA : kSn.C w A r.sn.length r.sn) (hl : r.sn.length ≤ 1000) (hw : r.wf) : Calls Try.prog 16 #[rcV r A c] w fun e w' => ∃ A' c', e = .returned (.tuple #[.slice A' (bB r).length c', .int .i64 (bE r)]) ∧ St w (fun _ => False) w' [row kByte rfl 5 (.slice A' (bB r).length c') (bB r)] := by
  have HS := St.empty w
  have hw0 := hw
  rcases hok : rcOk r with _ | _
  · skip
    refine c_enter Try.func16 rfl 102 rfl (rcV r A c :: U64n2 (U32n2 (U4n2 (undef :: [])))) rfl ?_
    refine wp_seq_k (fun K1 hK2 => ?_)
    refine c_region (fun ops4 hops3 => ?_)
    clear hops3
    refine St.wBox HS (cs := (.int .u32 r.e :: .bool r.p :: .int .u32 r.b :: .int .u32 r.q :: .int .i64 r.l :: .int .u32 r.xe :: .int .u32 r.xq :: .slice A r.sn.length c :: .int .u64 r.s :: .int .u32 r.te :: .int .u32 r.tq :: .int .u32 r.be :: .int .u32 r.bq :: .int .i64 r.nx :: .int .i64 r.tt :: .int .i64 r.rt :: [])) (rcV r A c) rfl rfl ?_
    clear HS
    intro g5 w6 hg7 HS
    refine p_run _ (x_assign (.slice none 0 0) rfl rfl) rfl ?_
    refine p_run _ (x_assign (.int .i64 0) rfl rfl) rfl ?_
    refine wpList_nil ?_
    refine hK2 _ _ ?_
    refine wp_seq_k (fun K8 hK9 => ?_)
    refine wp_seq_k (fun K10 hK11 => ?_)
    refine c_region (fun ops13 hops12 => ?_)
    clear hops12
    refine p_run _ (x_loads (.int .u32 r.e :: .bool r.p :: .int .u32 r.b :: .int .u32 r.q :: .int .i64 r.l :: .int .u32 r.xe :: .int .u32 r.xq :: .slice A r.sn.length c :: .int .u64 r.s :: .int .u32 r.te :: .int .u32 r.tq :: .int .u32 r.be :: .int .u32 r.bq :: .int .i64 r.nx :: .int .i64 r.tt :: .int .i64 r.rt :: []) 16 rfl rfl (bkCells (HS.get (.head _)) 0 _ rfl) (by rfl) (by kernel_rfl) rfl) rfl ?_
    refine w_call [rcV r A c] Try.func18 (by kernel_rfl) (by rfl) rfl ?_
    refine (r14right_any _ r A c (Kd.C_below hA HS.belowOf) hl hw0).mono ?_
    rintro e w14 ⟨he_, hb_⟩
    rw [hok] at he_
    subst he_
    replace HS := HS.here hb_
    clear hb_
    refine ⟨_, rfl, ?_⟩
    refine p_run _ (x_not false rfl rfl) rfl ?_
    refine wpList_nil ?_
    refine fr_at (l' := (rcV r A c :: .pointer (some ⟨g5, 0, none⟩) :: .slice none 0 0 :: .int .i64 0 :: U4n2 (undef :: rcV r A c :: .bool false :: .bool true :: U64n2 (U16n2 (U8n2 (undef :: undef :: [])))))) rfl ?_
    refine hK11 _ _ ?_
    refine c_true rfl ?_
    refine wp_seq_k (fun K15 hK16 => ?_)
    refine c_region (fun ops18 hops17 => ?_)
    clear hops17
    refine p_run _ (x_assign (.slice none 0 0) rfl rfl) rfl ?_
    refine p_run _ (x_assign (.int .i64 141) rfl rfl) rfl ?_
    refine wpList_nil ?_
    refine hK16 _ _ ?_
    refine wp_ret ?_
    try simp only [Exit.inBlock, Exit.then]
    refine c_ret (.tuple [.slice none 0 0, .int .i64 141].toArray) (r_tmp2 rfl rfl rfl) ?_
    replace HS := HS.nil kByte rfl 5
    obtain ⟨e1, e2⟩ := bb_no hok
    rw [e1, e2]
    exact ⟨none, 0, rfl, (HS.front 1 rfl).drop⟩
  · skip
    obtain ⟨⟨e1_, e2_⟩, b1_, q1_, ⟨l1_, l2_⟩, n8_, hsn, ⟨r1_, r2_⟩, ⟨x1_, x2_⟩, t1_, t2_⟩ := rc_of hok
    have hs_ : r.s = uv (UInt64.ofNat r.s.toNat) := by unfold uv; rw [nat_of hw.s.1 hw.s.2]; have := hw.s.1; omega
    obtain ⟨s1_, s2_⟩ := hw.s
    obtain ⟨b2_, b3_⟩ := hw.b
    obtain ⟨q2_, q3_⟩ := hw.q
    refine c_enter Try.func16 rfl 102 rfl (rcV r A c :: U64n2 (U32n2 (U4n2 (undef :: [])))) rfl ?_
    refine wp_seq_k (fun K1 hK2 => ?_)
    refine c_region (fun ops4 hops3 => ?_)
    clear hops3
    refine St.wBox HS (cs := (.int .u32 r.e :: .bool r.p :: .int .u32 r.b :: .int .u32 r.q :: .int .i64 r.l :: .int .u32 r.xe :: .int .u32 r.xq :: .slice A r.sn.length c :: .int .u64 r.s :: .int .u32 r.te :: .int .u32 r.tq :: .int .u32 r.be :: .int .u32 r.bq :: .int .i64 r.nx :: .int .i64 r.tt :: .int .i64 r.rt :: [])) (rcV r A c) rfl rfl ?_
    clear HS
    intro g5 w6 hg7 HS
    refine p_run _ (x_assign (.slice none 0 0) rfl rfl) rfl ?_
    refine p_run _ (x_assign (.int .i64 0) rfl rfl) rfl ?_
    refine wpList_nil ?_
    refine hK2 _ _ ?_
    refine wp_seq_k (fun K8 hK9 => ?_)
    refine wp_seq_k (fun K10 hK11 => ?_)
    refine c_region (fun ops13 hops12 => ?_)
    clear hops12
    refine p_run _ (x_loads (.int .u32 r.e :: .bool r.p :: .int .u32 r.b :: .int .u32 r.q :: .int .i64 r.l :: .int .u32 r.xe :: .int .u32 r.xq :: .slice A r.sn.length c :: .int .u64 r.s :: .int .u32 r.te :: .int .u32 r.tq :: .int .u32 r.be :: .int .u32 r.bq :: .int .i64 r.nx :: .int .i64 r.tt :: .int .i64 r.rt :: []) 16 rfl rfl (bkCells (HS.get (.head _)) 0 _ rfl) (by rfl) (by kernel_rfl) rfl) rfl ?_
    refine w_call [rcV r A c] Try.func18 (by kernel_rfl) (by rfl) rfl ?_
    refine (r14right_any _ r A c (Kd.C_below hA HS.belowOf) hl hw0).mono ?_
    rintro e w14 ⟨he_, hb_⟩
    rw [hok] at he_
    subst he_
    replace HS := HS.here hb_
    clear hb_
    refine ⟨_, rfl, ?_⟩
    refine p_run _ (x_not true rfl rfl) rfl ?_
    refine wpList_nil ?_
    refine fr_at (l' := (rcV r A c :: .pointer (some ⟨g5, 0, none⟩) :: .slice none 0 0 :: .int .i64 0 :: U4n2 (undef :: rcV r A c :: .bool true :: .bool false :: U64n2 (U16n2 (U8n2 (undef :: undef :: [])))))) rfl ?_
    refine hK11 _ _ ?_
    refine c_false rfl ?_
    refine wp_skip ?_
    refine hK9 _ _ ?_
    refine wp_seq_k (fun K15 hK16 => ?_)
    refine c_region (fun ops18 hops17 => ?_)
    clear hops17
    refine p_run _ (x_assign (.int .u64 0) rfl rfl) rfl ?_
    refine wpList_nil ?_
    refine hK16 _ _ ?_
    refine wp_seq_k (fun K19 hK20 => ?_)
    have hT21 : ∀ (hv : Int) (q22 : V8) (w23 : World), St w (fun _ => False) w23 ([blk g5 (.int .u32 r.e :: .bool r.p :: .int .u32 r.b :: .int .u32 r.q :: .int .i64 r.l :: .int .u32 r.xe :: .int .u32 r.xq :: .slice A r.sn.length c :: .int .u64 r.s :: .int .u32 r.te :: .int .u32 r.tq :: .int .u32 r.be :: .int .u32 r.bq :: .int .i64 r.nx :: .int .i64 r.tt :: .int .i64 r.rt :: []) 34]) → (hv = (if r.p = true then 1 else 0)) → K19 (fr (rcV r A c :: .pointer (some ⟨g5, 0, none⟩) :: .slice none 0 0 :: .int .i64 0 :: .int .u64 (uv (UInt64.ofNat hv.toNat)) :: U4n2 (rcV r A c :: .bool true :: .bool false :: q22.a :: q22.b :: U64n2 (U16n2 (U8n2 ([])))))) w23 := by
      clear HS
      intro hv q22 w23 HS hJ
      refine hK20 _ _ ?_
      have hh_ := hJ
      have hv01 : hv = 0 ∨ hv = 1 := by rw [hh_]; split <;> simp
      refine wp_seq_k (fun K24 hK25 => ?_)
      refine c_region (fun ops27 hops26 => ?_)
      clear hops26
      refine p_run _ (x_field (j := 0) _ _ rfl rfl Try.underlying34 rfl (by rfl) rfl) rfl ?_
      refine p_run _ (x_load (.int .u32 r.e) rfl rfl (bkCell (HS.get (.head _)) 0 _ rfl) (by rfl)) rfl ?_
      refine p_run _ (x_conv (k := .u32) (m := r.e) .u64 ((uv (UInt64.ofNat r.e.toNat))) rfl (by rw [Try.underlying26]; rfl) Try.underlying30 rfl (u32_conv (by omega) (by omega))) rfl ?_
      refine p_run _ (x_build [.int .u64 4, .int .u64 (uv (UInt64.ofNat r.e.toNat))] rfl (by kernel_rfl)) rfl ?_
      refine p_run _ (x_move (.int .u64 (uv (UInt64.ofNat hv.toNat))) rfl rfl) rfl ?_
      refine p_run (l' := (rcV r A c :: .pointer (some ⟨g5, 0, none⟩) :: .slice none 0 0 :: .int .i64 0 :: .int .u64 (uv (UInt64.ofNat hv.toNat)) :: U4n2 (rcV r A c :: .bool true :: .bool false :: q22.a :: q22.b :: .pointer (some ⟨g5, 0, none⟩) :: .int .u32 r.e :: .int .u64 (uv (UInt64.ofNat r.e.toNat)) :: .agg ([.int .u64 4, .int .u64 (uv (UInt64.ofNat r.e.toNat))] : List Value).toArray :: .int .u64 (uv (UInt64.ofNat hv.toNat)) :: .agg ([.int .u64 1, .int .u64 (uv (UInt64.ofNat hv.toNat))] : List Value).toArray :: U64n2 (U16n2 (undef :: undef :: []))))) _ (x_build [.int .u64 1, .int .u64 (uv (UInt64.ofNat hv.toNat))] rfl (by kernel_rfl)) rfl ?_
      refine p_run _ (x_field (j := 2) _ _ rfl rfl Try.underlying34 rfl (by rfl) rfl) rfl ?_
      refine p_run _ (x_load (.int .u32 r.b) rfl rfl (bkCell (HS.get (.head _)) 2 _ rfl) (by rfl)) rfl ?_
      refine p_run _ (x_conv (k := .u32) (m := r.b) .u64 ((uv (UInt64.ofNat r.b.toNat))) rfl (by rw [Try.underlying26]; rfl) Try.underlying30 rfl (u32_conv (by omega) (by omega))) rfl ?_
      refine p_run _ (x_build [.int .u64 4, .int .u64 (uv (UInt64.ofNat r.b.toNat))] rfl (by kernel_rfl)) rfl ?_
      refine p_run _ (x_field (j := 3) _ _ rfl rfl Try.underlying34 rfl (by rfl) rfl) rfl ?_
      refine p_run _ (x_load (.int .u32 r.q) rfl rfl (bkCell (HS.get (.head _)) 3 _ rfl) (by rfl)) rfl ?_
      refine p_run (l' := (rcV r A c :: .pointer (some ⟨g5, 0, none⟩) :: .slice none 0 0 :: .int .i64 0 :: .int .u64 (uv (UInt64.ofNat hv.toNat)) :: U4n2 (rcV r A c :: .bool true :: .bool false :: q22.a :: q22.b :: .pointer (some ⟨g5, 0, none⟩) :: .int .u32 r.e :: .int .u64 (uv (UInt64.ofNat r.e.toNat)) :: .agg ([.int .u64 4, .int .u64 (uv (UInt64.ofNat r.e.toNat))] : List Value).toArray :: .int .u64 (uv (UInt64.ofNat hv.toNat)) :: .agg ([.int .u64 1, .int .u64 (uv (UInt64.ofNat hv.toNat))] : List Value).toArray :: .pointer (some ⟨g5, 2, none⟩) :: .int .u32 r.b :: .int .u64 (uv (UInt64.ofNat r.b.toNat)) :: .agg ([.int .u64 4, .int .u64 (uv (UInt64.ofNat r.b.toNat))] : List Value).toArray :: .pointer (some ⟨g5, 3, none⟩) :: .int .u32 r.q :: .int .u64 (uv (UInt64.ofNat r.q.toNat)) :: U64n2 (U8n2 (undef :: undef :: undef :: []))))) _ (x_conv (k := .u32) (m := r.q) .u64 ((uv (UInt64.ofNat r.q.toNat))) rfl (by rw [Try.underlying26]; rfl) Try.underlying30 rfl (u32_conv (by omega) (by omega))) rfl ?_
      refine p_run _ (x_build [.int .u64 4, .int .u64 (uv (UInt64.ofNat r.q.toNat))] rfl (by kernel_rfl)) rfl ?_
      refine p_run _ (x_field (j := 4) _ _ rfl rfl Try.underlying34 rfl (by rfl) rfl) rfl ?_
      refine p_run _ (x_load (.int .i64 r.l) rfl rfl (bkCell (HS.get (.head _)) 4 _ rfl) (by rfl)) rfl ?_
      refine p_run _ (x_arith (k := .i64) (m := r.l) (n := 1) .add ((r.l + 1)) rfl rfl rfl (show IntKind.i64.wrap (r.l + 1) = (r.l + 1) from (wr64' (by omega))) rfl) rfl ?_
      refine p_run _ (x_conv (k := .i64) (m := (r.l + 1)) .u64 ((uv (UInt64.ofNat (r.l + 1).toNat))) rfl (by rw [Try.underlying3]; rfl) Try.underlying30 rfl (u32_conv (by omega) (by omega))) rfl ?_
      refine p_run _ (x_build [.int .u64 1, .int .u64 (uv (UInt64.ofNat (r.l + 1).toNat))] rfl (by kernel_rfl)) rfl ?_
      refine St.wLit HS (cs := [.int .u64 4, .int .u64 (uv (UInt64.ofNat r.e.toNat)), .int .u64 1, .int .u64 (uv (UInt64.ofNat hv.toNat)), .int .u64 4, .int .u64 (uv (UInt64.ofNat r.b.toNat)), .int .u64 4, .int .u64 (uv (UInt64.ofNat r.q.toNat)), .int .u64 1, .int .u64 (uv (UInt64.ofNat (r.l + 1).toNat))]) 2 (.agg [.int .u64 0, .int .u64 0].toArray) Try.underlying101 (by kernel_rfl) (by decide) (by kernel_rfl) ?_
      clear HS
      intro g28 w29 hg30 HS
      refine fr_to (l' := (rcV r A c :: .pointer (some ⟨g5, 0, none⟩) :: .slice none 0 0 :: .int .i64 0 :: .int .u64 (uv (UInt64.ofNat hv.toNat)) :: U4n2 (rcV r A c :: .bool true :: .bool false :: q22.a :: q22.b :: .pointer (some ⟨g5, 0, none⟩) :: .int .u32 r.e :: .int .u64 (uv (UInt64.ofNat r.e.toNat)) :: .agg ([.int .u64 4, .int .u64 (uv (UInt64.ofNat r.e.toNat))] : List Value).toArray :: .int .u64 (uv (UInt64.ofNat hv.toNat)) :: .agg ([.int .u64 1, .int .u64 (uv (UInt64.ofNat hv.toNat))] : List Value).toArray :: .pointer (some ⟨g5, 2, none⟩) :: .int .u32 r.b :: .int .u64 (uv (UInt64.ofNat r.b.toNat)) :: .agg ([.int .u64 4, .int .u64 (uv (UInt64.ofNat r.b.toNat))] : List Value).toArray :: .pointer (some ⟨g5, 3, none⟩) :: .int .u32 r.q :: .int .u64 (uv (UInt64.ofNat r.q.toNat)) :: .agg ([.int .u64 4, .int .u64 (uv (UInt64.ofNat r.q.toNat))] : List Value).toArray :: .pointer (some ⟨g5, 4, none⟩) :: .int .i64 r.l :: .int .i64 (r.l + 1) :: .int .u64 (uv (UInt64.ofNat (r.l + 1).toNat)) :: .agg ([.int .u64 1, .int .u64 (uv (UInt64.ofNat (r.l + 1).toNat))] : List Value).toArray :: .slice (some ⟨g28, 0, none⟩) 5 5 :: U64n2 (U4n2 ([]))))) rfl ?_
      refine w_call [.slice (some ⟨g28, 0, none⟩) 5 5] Try.func37 (by kernel_rfl) (by rfl) rfl ?_
      replace HS : St w (fun _ => False) w29 (blk g28 (nums .u64 (fsN [(4, UInt64.ofNat r.e.toNat), (1, UInt64.ofNat hv.toNat), (4, UInt64.ofNat r.b.toNat), (4, UInt64.ofNat r.q.toNat), (1, UInt64.ofNat (r.l + 1).toNat)])) 79 :: blk g5 (.int .u32 r.e :: .bool r.p :: .int .u32 r.b :: .int .u32 r.q :: .int .i64 r.l :: .int .u32 r.xe :: .int .u32 r.xq :: .slice A r.sn.length c :: .int .u64 r.s :: .int .u32 r.te :: .int .u32 r.tq :: .int .u32 r.be :: .int .u32 r.bq :: .int .i64 r.nx :: .int .i64 r.tt :: .int .i64 r.rt :: []) 34 :: []) := HS
      refine (fields_any (fs := [(4, UInt64.ofNat r.e.toNat), (1, UInt64.ofNat hv.toNat), (4, UInt64.ofNat r.b.toNat), (4, UInt64.ofNat r.q.toNat), (1, UInt64.ofNat (r.l + 1).toNat)]) HS (fw_cons (by decide) (fw_cons (by decide) (fw_cons (by decide) (fw_cons (by decide) (fw_cons (by decide) fw_nil))))) (by simp)).mono ?_
      clear HS
      rintro e w32 ⟨v31, rfl, HS⟩
      rw [fsB_cons 4 (x := r.e) (by omega) (by omega), fsB_cons 1 (x := hv) (by omega) (by omega), fsB_cons 4 (x := r.b) (by omega) (by omega), fsB_cons 4 (x := r.q) (by omega) (by omega), fsB_cons 1 (x := (r.l + 1)) (by omega) (by omega), fsB_nil, List.append_nil] at HS
      obtain ⟨A33, c34, hv35, hcp36, -⟩ := row_reads (HS.get (.head _))
      subst hv35
      rw [q4_eq hh_] at HS
      refine ⟨_, rfl, ?_⟩
      refine p_run _ (x_assign (.slice A33 ((q4 r).length) c34) rfl rfl) rfl ?_
      refine wpList_nil ?_
      refine hK25 _ _ ?_
      refine wp_seq_k (fun K37 hK38 => ?_)
      refine c_region (fun ops40 hops39 => ?_)
      clear hops39
      refine p_run _ (x_move (.slice A33 ((q4 r).length) c34) rfl rfl) rfl ?_
      refine p_run _ (x_field (j := 5) _ _ rfl rfl Try.underlying34 rfl (by rfl) rfl) rfl ?_
      refine p_run _ (x_loads [.int .u32 r.xe, .int .u32 r.xq] 2 rfl rfl (bkCells (HS.get (.tail _ (.tail _ (.head _)))) 5 _ rfl) (by rfl) (by kernel_rfl) rfl) rfl ?_
      refine St.wLit1 HS [.int .u32 r.xe, .int .u32 r.xq] 2 (.agg [.int .u32 0, .int .u32 0].toArray) (.agg ([.int .u32 r.xe, .int .u32 r.xq] : List Value).toArray) Try.underlying81 (by kernel_rfl) (by decide) rfl rfl rfl ?_
      clear HS
      intro g41 w42 hg43 HS
      refine w_call [.slice A33 ((q4 r).length) c34, .slice (some ⟨g41, 0, none⟩) 1 1] Try.func38 (by kernel_rfl) (by rfl) rfl ?_
      replace HS := (HS.front 1 rfl)
      have hsl_ : Sl w42 A33 c34 (q4 r) := by
        obtain ⟨_, _, hv_, hsl_⟩ := Own.sl (row_own HS.hs.head)
        injection hv_ with e1 e2 e3
        subst e1 e3
        exact hsl_
      refine (r3put_any _ _ c34 (q4 r) hsl_ _ 1 [(r.xe, r.xq)] (lit_reads (HS.get (.tail _ (.head _))) (lb_reps1 _ r.xe r.xq) (by simp)) (by intro y hy; rcases List.mem_singleton.1 hy with rfl; exact ⟨hw.xe, hw.xq⟩) (by simp only [List.length_cons, List.length_nil]; rw [(q_len r).2.2.2.1]; decide)).mono ?_
      rintro e w47 ⟨v46, rfl, hk_⟩
      clear hsl_
      replace HS := HS.more hk_
      clear hk_
      replace HS : St _ _ _ (row kByte rfl _ _ (q5 r) :: _) := HS
      refine ⟨_, rfl, ?_⟩
      refine fr_to (l' := (rcV r A c :: .pointer (some ⟨g5, 0, none⟩) :: .slice none 0 0 :: .int .i64 0 :: .int .u64 (uv (UInt64.ofNat hv.toNat)) :: .slice A33 ((q4 r).length) c34 :: undef :: undef :: undef :: rcV r A c :: .bool true :: .bool false :: q22.a :: q22.b :: .pointer (some ⟨g5, 0, none⟩) :: .int .u32 r.e :: .int .u64 (uv (UInt64.ofNat r.e.toNat)) :: .agg ([.int .u64 4, .int .u64 (uv (UInt64.ofNat r.e.toNat))] : List Value).toArray :: .int .u64 (uv (UInt64.ofNat hv.toNat)) :: .agg ([.int .u64 1, .int .u64 (uv (UInt64.ofNat hv.toNat))] : List Value).toArray :: .pointer (some ⟨g5, 2, none⟩) :: .int .u32 r.b :: .int .u64 (uv (UInt64.ofNat r.b.toNat)) :: .agg ([.int .u64 4, .int .u64 (uv (UInt64.ofNat r.b.toNat))] : List Value).toArray :: .pointer (some ⟨g5, 3, none⟩) :: .int .u32 r.q :: .int .u64 (uv (UInt64.ofNat r.q.toNat)) :: .agg ([.int .u64 4, .int .u64 (uv (UInt64.ofNat r.q.toNat))] : List Value).toArray :: .pointer (some ⟨g5, 4, none⟩) :: .int .i64 r.l :: .int .i64 (r.l + 1) :: .int .u64 (uv (UInt64.ofNat (r.l + 1).toNat)) :: .agg ([.int .u64 1, .int .u64 (uv (UInt64.ofNat (r.l + 1).toNat))] : List Value).toArray :: .slice (some ⟨g28, 0, none⟩) 5 5 :: .slice A33 ((q4 r).length) c34 :: .slice A33 ((q4 r).length) c34 :: .pointer (some ⟨g5, 5, none⟩) :: .agg ([.int .u32 r.xe, .int .u32 r.xq] : List Value).toArray :: .slice (some ⟨g41, 0, none⟩) 1 1 :: v46 :: U32n2 (U16n2 (U8n2 (U4n2 (undef :: undef :: [])))))) rfl ?_
      refine p_run _ (x_assign (v46) rfl rfl) rfl ?_
      refine wpList_nil ?_
      refine hK38 _ _ ?_
      refine wp_seq_k (fun K48 hK49 => ?_)
      refine c_region (fun ops51 hops50 => ?_)
      clear hops50
      refine p_run _ (x_move (v46) rfl rfl) rfl ?_
      refine p_run _ (x_field (j := 7) _ _ rfl rfl Try.underlying34 rfl (by rfl) rfl) rfl ?_
      refine p_run _ (x_load (.slice A r.sn.length c) rfl rfl (bkCell (HS.get (.tail _ (.tail _ (.tail _ (.tail _ (.head _)))))) 7 _ rfl) (by rfl)) rfl ?_
      refine p_run _ (x_len rfl rfl Try.underlying29) rfl ?_
      refine p_run _ (x_conv (k := .i64) (m := (r.sn.length : Int)) .u8 ((bv (UInt8.ofNat (r.sn.length : Int).toNat))) rfl (by rw [Try.underlying3]; rfl) Try.underlying5 rfl (u8_conv (by omega) (by omega))) rfl ?_
      refine St.wLit1 HS [.int .u8 (bv (UInt8.ofNat (r.sn.length : Int).toNat))] 1 (.int .u8 0) (.int .u8 (bv (UInt8.ofNat (r.sn.length : Int).toNat))) Try.underlying22 (by kernel_rfl) (by decide) rfl rfl rfl ?_
      clear HS
      intro g52 w53 hg54 HS
      refine fr_to (l' := (rcV r A c :: .pointer (some ⟨g5, 0, none⟩) :: .slice none 0 0 :: .int .i64 0 :: .int .u64 (uv (UInt64.ofNat hv.toNat)) :: v46 :: undef :: undef :: undef :: rcV r A c :: .bool true :: .bool false :: q22.a :: q22.b :: .pointer (some ⟨g5, 0, none⟩) :: .int .u32 r.e :: .int .u64 (uv (UInt64.ofNat r.e.toNat)) :: .agg ([.int .u64 4, .int .u64 (uv (UInt64.ofNat r.e.toNat))] : List Value).toArray :: .int .u64 (uv (UInt64.ofNat hv.toNat)) :: .agg ([.int .u64 1, .int .u64 (uv (UInt64.ofNat hv.toNat))] : List Value).toArray :: .pointer (some ⟨g5, 2, none⟩) :: .int .u32 r.b :: .int .u64 (uv (UInt64.ofNat r.b.toNat)) :: .agg ([.int .u64 4, .int .u64 (uv (UInt64.ofNat r.b.toNat))] : List Value).toArray :: .pointer (some ⟨g5, 3, none⟩) :: .int .u32 r.q :: .int .u64 (uv (UInt64.ofNat r.q.toNat)) :: .agg ([.int .u64 4, .int .u64 (uv (UInt64.ofNat r.q.toNat))] : List Value).toArray :: .pointer (some ⟨g5, 4, none⟩) :: .int .i64 r.l :: .int .i64 (r.l + 1) :: .int .u64 (uv (UInt64.ofNat (r.l + 1).toNat)) :: .agg ([.int .u64 1, .int .u64 (uv (UInt64.ofNat (r.l + 1).toNat))] : List Value).toArray :: .slice (some ⟨g28, 0, none⟩) 5 5 :: .slice A33 ((q4 r).length) c34 :: .slice A33 ((q4 r).length) c34 :: .pointer (some ⟨g5, 5, none⟩) :: .agg ([.int .u32 r.xe, .int .u32 r.xq] : List Value).toArray :: .slice (some ⟨g41, 0, none⟩) 1 1 :: v46 :: v46 :: .pointer (some ⟨g5, 7, none⟩) :: .slice A r.sn.length c :: .int .i64 (r.sn.length : Int) :: .int .u8 (bv (UInt8.ofNat (r.sn.length : Int).toNat)) :: .slice (some ⟨g52, 0, none⟩) 1 1 :: U32n2 (U16n2 (U8n2 ([]))))) rfl ?_
      replace HS := (HS.front 1 rfl)
      refine St.wAppend HS (.int .u8 0) 1 Try.underlying22 (by kernel_rfl) rfl (by decide) (by decide) [(UInt8.ofNat (r.sn.length : Int).toNat)] _ _ _ rfl rfl (rd_blkn (xs := [(UInt8.ofNat (r.sn.length : Int).toNat)]) (HS.get (.tail _ (.head _))) rfl (by decide)) (fun _ _ h => h) (by have := q_len r; omega) ?_
      clear HS
      intro v55 w56 HS
      refine p_run _ (x_assign (v55) rfl rfl) rfl ?_
      refine wpList_nil ?_
      refine hK49 _ _ ?_
      refine wp_seq_k (fun K57 hK58 => ?_)
      refine wp_seq_k (fun K59 hK60 => ?_)
      skip
      · skip
        rw [← nB1 (x := (r.sn.length : Int)) (by omega) (by omega)] at HS
        replace HS : St _ _ _ (row kByte rfl _ _ (q6 r) :: _) := HS
        refine c_region (fun ops62 hops61 => ?_)
        clear hops61
        refine p_run _ (x_field (j := 7) _ _ rfl rfl Try.underlying34 rfl (by rfl) rfl) rfl ?_
        refine p_run _ (x_load (.slice A r.sn.length c) rfl rfl (bkCell (HS.get (.tail _ (.tail _ (.tail _ (.tail _ (.tail _ (.head _))))))) 7 _ rfl) (by rfl)) rfl ?_
        refine p_run _ (x_len rfl rfl Try.underlying29) rfl ?_
        refine p_run _ (x_move (.int .i64 0) rfl rfl) rfl ?_
        refine wpList_nil ?_
        obtain ⟨qz63, hqz63⟩ : ∃ q_ : V8, q_ = ⟨.int .u64 (uv (UInt64.ofNat r.e.toNat)), .agg ([.int .u64 4, .int .u64 (uv (UInt64.ofNat r.e.toNat))] : List Value).toArray, .int .u64 (uv (UInt64.ofNat hv.toNat)), .agg ([.int .u64 1, .int .u64 (uv (UInt64.ofNat hv.toNat))] : List Value).toArray, .pointer (some ⟨g5, 2, none⟩), .int .u32 r.b, .int .u64 (uv (UInt64.ofNat r.b.toNat)), .agg ([.int .u64 4, .int .u64 (uv (UInt64.ofNat r.b.toNat))] : List Value).toArray⟩ := ⟨_, rfl⟩
        obtain ⟨qz64, hqz64⟩ : ∃ q_ : V8, q_ = ⟨.pointer (some ⟨g5, 3, none⟩), .int .u32 r.q, .int .u64 (uv (UInt64.ofNat r.q.toNat)), .agg ([.int .u64 4, .int .u64 (uv (UInt64.ofNat r.q.toNat))] : List Value).toArray, .pointer (some ⟨g5, 4, none⟩), .int .i64 r.l, .int .i64 (r.l + 1), .int .u64 (uv (UInt64.ofNat (r.l + 1).toNat))⟩ := ⟨_, rfl⟩
        obtain ⟨qz65, hqz65⟩ : ∃ q_ : V8, q_ = ⟨.agg ([.int .u64 1, .int .u64 (uv (UInt64.ofNat (r.l + 1).toNat))] : List Value).toArray, .slice (some ⟨g28, 0, none⟩) 5 5, .slice A33 ((q4 r).length) c34, .slice A33 ((q4 r).length) c34, .pointer (some ⟨g5, 5, none⟩), .agg ([.int .u32 r.xe, .int .u32 r.xq] : List Value).toArray, .slice (some ⟨g41, 0, none⟩) 1 1, v46⟩ := ⟨_, rfl⟩
        obtain ⟨qz66, hqz66⟩ : ∃ q_ : V8, q_ = ⟨v46, .pointer (some ⟨g5, 7, none⟩), .slice A r.sn.length c, .int .i64 (r.sn.length : Int), .int .u8 (bv (UInt8.ofNat (r.sn.length : Int).toNat)), .slice (some ⟨g52, 0, none⟩) 1 1, v55, .pointer (some ⟨g5, 7, none⟩)⟩ := ⟨_, rfl⟩
        refine fr_at (l' := (rcV r A c :: .pointer (some ⟨g5, 0, none⟩) :: .slice none 0 0 :: .int .i64 0 :: .int .u64 (uv (UInt64.ofNat hv.toNat)) :: v55 :: undef :: undef :: undef :: rcV r A c :: .bool true :: .bool false :: q22.a :: q22.b :: .pointer (some ⟨g5, 0, none⟩) :: .int .u32 r.e :: V8.l qz63 (V8.l qz64 (V8.l qz65 (V8.l qz66 (.slice A r.sn.length c :: .int .i64 (r.sn.length : Int) :: .int .i64 0 :: U32n2 (U16n2 (undef :: undef :: undef :: [])))))))) (by subst hqz63 hqz64 hqz65 hqz66; rfl) ?_
        refine hK60 _ _ ?_
        refine wp_block ?_
        refine c_loop (ι := Nat × Value) (fun i_ a_ w_ => match i_ with | (j, u5) => ∃ (u7 : Value) (u51 : Value) (u52 : Value) (u53 : Value) (u54 : Value) (u55 : Value) (u56 : Value) (u57 : Value) (u58 : Value) (u59 : Value) (u60 : Value) (u61 : Value) (u62 : Value) (u63 : Value) (u64 : Value) (u65 : Value) (u66 : Value) (u67 : Value) (u68 : Value) (u69 : Value) (u70 : Value) (u71 : Value) (u72 : Value), a_ = fr (rcV r A c :: .pointer (some ⟨g5, 0, none⟩) :: .slice none 0 0 :: .int .i64 0 :: .int .u64 (uv (UInt64.ofNat hv.toNat)) :: u5 :: undef :: u7 :: undef :: rcV r A c :: .bool true :: .bool false :: q22.a :: q22.b :: .pointer (some ⟨g5, 0, none⟩) :: .int .u32 r.e :: V8.l qz63 (V8.l qz64 (V8.l qz65 (V8.l qz66 (.slice A r.sn.length c :: .int .i64 (r.sn.length : Int) :: .int .i64 (j : Int) :: u51 :: u52 :: u53 :: u54 :: u55 :: u56 :: u57 :: u58 :: u59 :: u60 :: u61 :: u62 :: u63 :: u64 :: u65 :: u66 :: u67 :: u68 :: u69 :: u70 :: u71 :: u72 :: U16n2 (U8n2 (U4n2 (undef :: [])))))))) ∧ St w (fun _ => False) w_ ([row kByte rfl 5 u5 (q7 r j), blk g5 (.int .u32 r.e :: .bool r.p :: .int .u32 r.b :: .int .u32 r.q :: .int .i64 r.l :: .int .u32 r.xe :: .int .u32 r.xq :: .slice A r.sn.length c :: .int .u64 r.s :: .int .u32 r.te :: .int .u32 r.tq :: .int .u32 r.be :: .int .u32 r.bq :: .int .i64 r.nx :: .int .i64 r.tt :: .int .i64 r.rt :: []) 34]) ∧ (j ≤ r.sn.length)) (fun i_ => match i_ with | (j, u5) => r.sn.length - j) (0, v55) ?_ ?_
        · exact ⟨_, _, _, _, _, _, _, _, _, _, _, _, _, _, _, _, _, _, _, _, _, _, _, rfl, (by rw [q7_zero]; exact ((((((HS.front 1 rfl).drop.front 1 rfl).drop.front 1 rfl).drop.front 1 rfl).drop.front 1 rfl).front 1 rfl)), Nat.zero_le _⟩
        · clear HS
          rintro ⟨j, u5⟩ a_ w69 ⟨u7, u51, u52, u53, u54, u55, u56, u57, u58, u59, u60, u61, u62, u63, u64, u65, u66, u67, u68, u69, u70, u71, u72, rfl, HS, hI⟩ J67 hJ68
          have hjl := hI
          refine wp_seq_k (fun K70 hK71 => ?_)
          refine c_region (fun ops73 hops72 => ?_)
          clear hops72
          refine p_run _ (x_cmp (k := .i64) (m := (j : Int)) (n := (r.sn.length : Int)) .lss (decide ((j : Int) < (r.sn.length : Int))) rfl rfl rfl rfl rfl) rfl ?_
          refine wpList_nil ?_
          refine hK71 _ _ ?_
          refine wp_seq_k (fun K74 hK75 => ?_)
          refine c_cond (t := decide ((j : Int) < (r.sn.length : Int))) rfl (fun hc76 => ?_) (fun hc76 => ?_)
          · have hlt : j < r.sn.length := by have := of_decide_eq_true hc76; omega
            obtain ⟨ad, x, rfl, hx, -⟩ := sn_get (Kd.C_below hA HS.belowOf) j hlt
            have hwx := hw.sn x (List.mem_of_getElem? hx)
            obtain ⟨⟨y1, y2⟩, ⟨y3, y4⟩, -, y5, y6⟩ := hw.sn x (List.mem_of_getElem? hx)
            obtain ⟨y7, y8⟩ := sn_root _ _ _ hsn x (List.mem_of_getElem? hx)
            refine wp_skip ?_
            refine hK75 _ _ ?_
            refine wp_seq_k (fun K77 hK78 => ?_)
            refine wp_block ?_
            refine wp_seq_k (fun K79 hK80 => ?_)
            refine c_region (fun ops82 hops81 => ?_)
            clear hops81
            refine p_run _ (x_index (A := ad) (j := j * 4) (sz := 4) rfl rfl rfl Try.underlying29 (by kernel_rfl) (by omega) rfl) rfl ?_
            refine p_run _ (x_loads [.int .u32 x.1, .int .u32 x.2.1, .int .i64 x.2.2.1, .int .u32 x.2.2.2] 4 rfl rfl (sn_cells (Kd.C_below hA HS.belowOf) hx) (by rfl) (by kernel_rfl) rfl) rfl ?_
            refine St.wAlloc HS (cs := [.int .u32 0, .int .u32 0, .int .i64 0, .int .u32 0]) (.agg [.int .u32 0, .int .u32 0, .int .i64 0, .int .u32 0].toArray) (by kernel_rfl) rfl ?_
            clear HS
            intro g83 w84 hg85 HS
            refine St.stores (cs' := [.int .u32 x.1, .int .u32 x.2.1, .int .i64 x.2.2.1, .int .u32 x.2.2.2]) HS [.int .u32 x.1, .int .u32 x.2.1, .int .i64 x.2.2.1, .int .u32 x.2.2.2] 4 rfl rfl (by rfl) (by kernel_rfl) rfl (by simp) rfl ?_
            clear HS
            intro w86 HS
            refine wpList_nil ?_
            refine fr_at (l' := (rcV r (some ad) c :: .pointer (some ⟨g5, 0, none⟩) :: .slice none 0 0 :: .int .i64 0 :: .int .u64 (uv (UInt64.ofNat hv.toNat)) :: u5 :: undef :: .pointer (some ⟨g83, 0, none⟩) :: undef :: rcV r (some ad) c :: .bool true :: .bool false :: q22.a :: q22.b :: .pointer (some ⟨g5, 0, none⟩) :: .int .u32 r.e :: V8.l qz63 (V8.l qz64 (V8.l qz65 (V8.l qz66 (.slice (some ad) r.sn.length c :: .int .i64 (r.sn.length : Int) :: .int .i64 (j : Int) :: .bool (decide ((j : Int) < (r.sn.length : Int))) :: .pointer (some ((ad).add (j * 4))) :: .agg ([.int .u32 x.1, .int .u32 x.2.1, .int .i64 x.2.2.1, .int .u32 x.2.2.2] : List Value).toArray :: u54 :: u55 :: u56 :: u57 :: u58 :: u59 :: u60 :: u61 :: u62 :: u63 :: u64 :: u65 :: u66 :: u67 :: u68 :: u69 :: u70 :: u71 :: u72 :: U16n2 (U8n2 (U4n2 (undef :: []))))))))) rfl ?_
            refine hK80 _ _ ?_
            refine wp_seq_k (fun K87 hK88 => ?_)
            refine c_region (fun ops90 hops89 => ?_)
            clear hops89
            refine p_run _ (x_move (u5) rfl rfl) rfl ?_
            refine p_run _ (x_field (j := 0) _ _ rfl rfl Try.underlying48 rfl (by rfl) rfl) rfl ?_
            refine p_run _ (x_loads [.int .u32 x.1, .int .u32 x.2.1] 2 rfl rfl (bkCells (HS.get (.head _)) 0 _ rfl) (by rfl) (by kernel_rfl) rfl) rfl ?_
            refine St.wLit1 HS [.int .u32 x.1, .int .u32 x.2.1] 2 (.agg [.int .u32 0, .int .u32 0].toArray) (.agg ([.int .u32 x.1, .int .u32 x.2.1] : List Value).toArray) Try.underlying81 (by kernel_rfl) (by decide) rfl rfl rfl ?_
            clear HS
            intro g91 w92 hg93 HS
            refine w_call [u5, .slice (some ⟨g91, 0, none⟩) 1 1] Try.func38 (by kernel_rfl) (by rfl) rfl ?_
            replace HS := (HS.front 2 rfl)
            obtain ⟨A94, c95, hv_, hsl_⟩ := Own.sl (row_own HS.hs.head)
            subst hv_
            refine (r3put_any _ _ c95 (q7 r j) hsl_ _ 1 [(x.1, x.2.1)] (lit_reads (HS.get (.tail _ (.head _))) (lb_reps1 _ x.1 x.2.1) (by simp)) (by intro y hy; rcases List.mem_singleton.1 hy with rfl; exact ⟨hwx.1, hwx.2.1⟩) (by simp only [List.length_cons, List.length_nil]; have := q7_len r j; omega)).mono ?_
            rintro e w97 ⟨v96, rfl, hk_⟩
            clear hsl_
            replace HS := HS.more hk_
            clear hk_
            refine ⟨_, rfl, ?_⟩
            refine p_run _ (x_assign (v96) rfl rfl) rfl ?_
            refine wpList_nil ?_
            refine fr_at (l' := (rcV r (some ad) c :: .pointer (some ⟨g5, 0, none⟩) :: .slice none 0 0 :: .int .i64 0 :: .int .u64 (uv (UInt64.ofNat hv.toNat)) :: v96 :: undef :: .pointer (some ⟨g83, 0, none⟩) :: undef :: rcV r (some ad) c :: .bool true :: .bool false :: q22.a :: q22.b :: .pointer (some ⟨g5, 0, none⟩) :: .int .u32 r.e :: V8.l qz63 (V8.l qz64 (V8.l qz65 (V8.l qz66 (.slice (some ad) r.sn.length c :: .int .i64 (r.sn.length : Int) :: .int .i64 (j : Int) :: .bool (decide ((j : Int) < (r.sn.length : Int))) :: .pointer (some ((ad).add (j * 4))) :: .agg ([.int .u32 x.1, .int .u32 x.2.1, .int .i64 x.2.2.1, .int .u32 x.2.2.2] : List Value).toArray :: .slice A94 ((q7 r j).length) c95 :: .pointer (some ⟨g83, 0, none⟩) :: .agg ([.int .u32 x.1, .int .u32 x.2.1] : List Value).toArray :: .slice (some ⟨g91, 0, none⟩) 1 1 :: v96 :: u59 :: u60 :: u61 :: u62 :: u63 :: u64 :: u65 :: u66 :: u67 :: u68 :: u69 :: u70 :: u71 :: u72 :: U16n2 (U8n2 (U4n2 (undef :: []))))))))) rfl ?_
            refine hK88 _ _ ?_
            refine c_region (fun ops99 hops98 => ?_)
            clear hops98
            refine p_run _ (x_move (v96) rfl rfl) rfl ?_
            refine p_run _ (x_field (j := 2) _ _ rfl rfl Try.underlying48 rfl (by rfl) rfl) rfl ?_
            refine p_run _ (x_load (.int .i64 x.2.2.1) rfl rfl (bkCell (HS.get (.tail _ (.tail _ (.tail _ (.head _))))) 2 _ rfl) (by rfl)) rfl ?_
            refine p_run _ (x_arith (k := .i64) (m := x.2.2.1) (n := 1) .add ((x.2.2.1 + 1)) rfl rfl rfl (show IntKind.i64.wrap (x.2.2.1 + 1) = (x.2.2.1 + 1) from (wr64' (by omega))) rfl) rfl ?_
            refine p_run _ (x_conv (k := .i64) (m := (x.2.2.1 + 1)) .u64 ((uv (UInt64.ofNat (x.2.2.1 + 1).toNat))) rfl (by rw [Try.underlying3]; rfl) Try.underlying30 rfl (u32_conv (by omega) (by omega))) rfl ?_
            refine p_run _ (x_build [.int .u64 1, .int .u64 (uv (UInt64.ofNat (x.2.2.1 + 1).toNat))] rfl (by kernel_rfl)) rfl ?_
            refine p_run (l' := (rcV r (some ad) c :: .pointer (some ⟨g5, 0, none⟩) :: .slice none 0 0 :: .int .i64 0 :: .int .u64 (uv (UInt64.ofNat hv.toNat)) :: v96 :: undef :: .pointer (some ⟨g83, 0, none⟩) :: undef :: rcV r (some ad) c :: .bool true :: .bool false :: q22.a :: q22.b :: .pointer (some ⟨g5, 0, none⟩) :: .int .u32 r.e :: V8.l qz63 (V8.l qz64 (V8.l qz65 (V8.l qz66 (.slice (some ad) r.sn.length c :: .int .i64 (r.sn.length : Int) :: .int .i64 (j : Int) :: .bool (decide ((j : Int) < (r.sn.length : Int))) :: .pointer (some ((ad).add (j * 4))) :: .agg ([.int .u32 x.1, .int .u32 x.2.1, .int .i64 x.2.2.1, .int .u32 x.2.2.2] : List Value).toArray :: .slice A94 ((q7 r j).length) c95 :: .pointer (some ⟨g83, 0, none⟩) :: .agg ([.int .u32 x.1, .int .u32 x.2.1] : List Value).toArray :: .slice (some ⟨g91, 0, none⟩) 1 1 :: v96 :: v96 :: .pointer (some ⟨g83, 2, none⟩) :: .int .i64 x.2.2.1 :: .int .i64 (x.2.2.1 + 1) :: .int .u64 (uv (UInt64.ofNat (x.2.2.1 + 1).toNat)) :: .agg ([.int .u64 1, .int .u64 (uv (UInt64.ofNat (x.2.2.1 + 1).toNat))] : List Value).toArray :: .pointer (some ⟨g83, 3, none⟩) :: u66 :: u67 :: u68 :: u69 :: u70 :: u71 :: u72 :: U16n2 (U8n2 (U4n2 (undef :: []))))))))) _ (x_field (j := 3) _ _ rfl rfl Try.underlying48 rfl (by rfl) rfl) rfl ?_
            refine p_run _ (x_load (.int .u32 x.2.2.2) rfl rfl (bkCell (HS.get (.tail _ (.tail _ (.tail _ (.head _))))) 3 _ rfl) (by rfl)) rfl ?_
            refine p_run _ (x_conv (k := .u32) (m := x.2.2.2) .u64 ((uv (UInt64.ofNat x.2.2.2.toNat))) rfl (by rw [Try.underlying26]; rfl) Try.underlying30 rfl (u32_conv (by omega) (by omega))) rfl ?_
            refine p_run _ (x_build [.int .u64 4, .int .u64 (uv (UInt64.ofNat x.2.2.2.toNat))] rfl (by kernel_rfl)) rfl ?_
            refine St.wLit HS (cs := [.int .u64 1, .int .u64 (uv (UInt64.ofNat (x.2.2.1 + 1).toNat)), .int .u64 4, .int .u64 (uv (UInt64.ofNat x.2.2.2.toNat))]) 2 (.agg [.int .u64 0, .int .u64 0].toArray) Try.underlying101 (by kernel_rfl) (by decide) (by kernel_rfl) ?_
            clear HS
            intro g100 w101 hg102 HS
            refine w_call [.slice (some ⟨g100, 0, none⟩) 2 2] Try.func37 (by kernel_rfl) (by rfl) rfl ?_
            replace HS : St w (fun _ => False) w101 (blk g100 (nums .u64 (fsN [(1, UInt64.ofNat (x.2.2.1 + 1).toNat), (4, UInt64.ofNat x.2.2.2.toNat)])) 79 :: row kByte rfl 5 v96 (q7 r j ++ [(x.1, x.2.1)].flatMap lbB) :: row kByte rfl 5 (.slice A94 ((q7 r j).length) c95) (q7 r j) :: blk g91 [.int .u32 x.1, .int .u32 x.2.1] 28 :: blk g83 [.int .u32 x.1, .int .u32 x.2.1, .int .i64 x.2.2.1, .int .u32 x.2.2.2] 48 :: blk g5 (.int .u32 r.e :: .bool r.p :: .int .u32 r.b :: .int .u32 r.q :: .int .i64 r.l :: .int .u32 r.xe :: .int .u32 r.xq :: .slice (some ad) r.sn.length c :: .int .u64 r.s :: .int .u32 r.te :: .int .u32 r.tq :: .int .u32 r.be :: .int .u32 r.bq :: .int .i64 r.nx :: .int .i64 r.tt :: .int .i64 r.rt :: []) 34 :: []) := HS
            refine (fields_any (fs := [(1, UInt64.ofNat (x.2.2.1 + 1).toNat), (4, UInt64.ofNat x.2.2.2.toNat)]) HS (fw_cons (by decide) (fw_cons (by decide) fw_nil)) (by simp)).mono ?_
            clear HS
            rintro e w104 ⟨v103, rfl, HS⟩
            rw [fsB_cons 1 (x := (x.2.2.1 + 1)) (by omega) (by omega), fsB_cons 4 (x := x.2.2.2) (by omega) (by omega), fsB_nil, List.append_nil] at HS
            obtain ⟨A105, c106, hv107, hcp108, -⟩ := row_reads (HS.get (.head _))
            subst hv107
            refine ⟨_, rfl, ?_⟩
            replace HS := (HS.front 2 rfl)
            refine St.wAppend HS (.int .u8 0) 1 Try.underlying22 (by kernel_rfl) rfl (by decide) (by decide) (nB 1 (x.2.2.1 + 1) ++ (nB 4 x.2.2.2)) _ _ _ rfl rfl (row_rd (HS.get (.tail _ (.head _)))).2.2 (fun _ _ h => h) (by have := q7_len r j; have := nB_len 1 (x.2.2.1 + 1); have := nB_len 4 x.2.2.2; simp only [List.length_append, List.flatMap_cons, List.flatMap_nil, lbB_len, List.length_nil]; omega) ?_
            clear HS
            intro v109 w110 HS
            refine p_run (l' := (rcV r (some ad) c :: .pointer (some ⟨g5, 0, none⟩) :: .slice none 0 0 :: .int .i64 0 :: .int .u64 (uv (UInt64.ofNat hv.toNat)) :: v109 :: undef :: .pointer (some ⟨g83, 0, none⟩) :: undef :: rcV r (some ad) c :: .bool true :: .bool false :: q22.a :: q22.b :: .pointer (some ⟨g5, 0, none⟩) :: .int .u32 r.e :: V8.l qz63 (V8.l qz64 (V8.l qz65 (V8.l qz66 (.slice (some ad) r.sn.length c :: .int .i64 (r.sn.length : Int) :: .int .i64 (j : Int) :: .bool (decide ((j : Int) < (r.sn.length : Int))) :: .pointer (some ((ad).add (j * 4))) :: .agg ([.int .u32 x.1, .int .u32 x.2.1, .int .i64 x.2.2.1, .int .u32 x.2.2.2] : List Value).toArray :: .slice A94 ((q7 r j).length) c95 :: .pointer (some ⟨g83, 0, none⟩) :: .agg ([.int .u32 x.1, .int .u32 x.2.1] : List Value).toArray :: .slice (some ⟨g91, 0, none⟩) 1 1 :: v96 :: v96 :: .pointer (some ⟨g83, 2, none⟩) :: .int .i64 x.2.2.1 :: .int .i64 (x.2.2.1 + 1) :: .int .u64 (uv (UInt64.ofNat (x.2.2.1 + 1).toNat)) :: .agg ([.int .u64 1, .int .u64 (uv (UInt64.ofNat (x.2.2.1 + 1).toNat))] : List Value).toArray :: .pointer (some ⟨g83, 3, none⟩) :: .int .u32 x.2.2.2 :: .int .u64 (uv (UInt64.ofNat x.2.2.2.toNat)) :: .agg ([.int .u64 4, .int .u64 (uv (UInt64.ofNat x.2.2.2.toNat))] : List Value).toArray :: .slice (some ⟨g100, 0, none⟩) 2 2 :: .slice A105 ((nB 1 (x.2.2.1 + 1) ++ (nB 4 x.2.2.2)).length) c106 :: v109 :: u72 :: U16n2 (U8n2 (U4n2 (undef :: []))))))))) _ (x_assign (v109) rfl rfl) rfl ?_
            refine wpList_nil ?_
            refine hK78 _ _ ?_
            refine c_region (fun ops112 hops111 => ?_)
            clear hops111
            refine p_run _ (x_arith (k := .i64) (m := (j : Int)) (n := 1) .add (((j + 1 : Nat) : Int)) rfl rfl rfl (show IntKind.i64.wrap ((j : Int) + 1) = ((j + 1 : Nat) : Int) from ((wr64' (by omega)).trans (by omega))) rfl) rfl ?_
            refine p_run _ (x_move (.int .i64 ((j + 1 : Nat) : Int)) rfl rfl) rfl ?_
            refine wpList_nil ?_
            refine fr_at (l' := (rcV r (some ad) c :: .pointer (some ⟨g5, 0, none⟩) :: .slice none 0 0 :: .int .i64 0 :: .int .u64 (uv (UInt64.ofNat hv.toNat)) :: v109 :: undef :: .pointer (some ⟨g83, 0, none⟩) :: undef :: rcV r (some ad) c :: .bool true :: .bool false :: q22.a :: q22.b :: .pointer (some ⟨g5, 0, none⟩) :: .int .u32 r.e :: V8.l qz63 (V8.l qz64 (V8.l qz65 (V8.l qz66 (.slice (some ad) r.sn.length c :: .int .i64 (r.sn.length : Int) :: .int .i64 ((j + 1 : Nat) : Int) :: .bool (decide ((j : Int) < (r.sn.length : Int))) :: .pointer (some ((ad).add (j * 4))) :: .agg ([.int .u32 x.1, .int .u32 x.2.1, .int .i64 x.2.2.1, .int .u32 x.2.2.2] : List Value).toArray :: .slice A94 ((q7 r j).length) c95 :: .pointer (some ⟨g83, 0, none⟩) :: .agg ([.int .u32 x.1, .int .u32 x.2.1] : List Value).toArray :: .slice (some ⟨g91, 0, none⟩) 1 1 :: v96 :: v96 :: .pointer (some ⟨g83, 2, none⟩) :: .int .i64 x.2.2.1 :: .int .i64 (x.2.2.1 + 1) :: .int .u64 (uv (UInt64.ofNat (x.2.2.1 + 1).toNat)) :: .agg ([.int .u64 1, .int .u64 (uv (UInt64.ofNat (x.2.2.1 + 1).toNat))] : List Value).toArray :: .pointer (some ⟨g83, 3, none⟩) :: .int .u32 x.2.2.2 :: .int .u64 (uv (UInt64.ofNat x.2.2.2.toNat)) :: .agg ([.int .u64 4, .int .u64 (uv (UInt64.ofNat x.2.2.2.toNat))] : List Value).toArray :: .slice (some ⟨g100, 0, none⟩) 2 2 :: .slice A105 ((nB 1 (x.2.2.1 + 1) ++ (nB 4 x.2.2.2)).length) c106 :: v109 :: .int .i64 ((j + 1 : Nat) : Int) :: U16n2 (U8n2 (U4n2 (undef :: []))))))))) rfl ?_
            rw [q7_step2 hx] at HS
            refine hJ68 (j + 1, v109) _ _ ?_ ?_
            · show r.sn.length - (j + 1) < r.sn.length - j; omega
            · exact ⟨_, _, _, _, _, _, _, _, _, _, _, _, _, _, _, _, _, _, _, _, _, _, _, rfl, (((((((HS.front 1 rfl).drop.front 1 rfl).drop.front 1 rfl).drop.front 1 rfl).drop.front 1 rfl).drop.front 1 rfl).front 1 rfl), (by omega)⟩
          · have hlt : j = r.sn.length := by have := of_decide_eq_false hc76; omega
            subst hlt
            refine wp_exit ?_
            refine hK58 _ _ ?_
            refine wp_seq_k (fun K113 hK114 => ?_)
            refine c_region (fun ops116 hops115 => ?_)
            clear hops115
            refine p_run _ (x_field (j := 8) _ _ rfl rfl Try.underlying34 rfl (by rfl) rfl) rfl ?_
            refine p_run _ (x_loads [.int .u64 r.s, .int .u32 r.te, .int .u32 r.tq, .int .u32 r.be, .int .u32 r.bq, .int .i64 r.nx, .int .i64 r.tt, .int .i64 r.rt] 8 rfl rfl (bkCells (HS.get (.tail _ (.head _))) 8 _ rfl) (by rfl) (by kernel_rfl) rfl) rfl ?_
            refine St.wAlloc HS (cs := [.int .u64 0, .int .u32 0, .int .u32 0, .int .u32 0, .int .u32 0, .int .i64 0, .int .i64 0, .int .i64 0]) (.agg [.int .u64 0, .int .u32 0, .int .u32 0, .int .u32 0, .int .u32 0, .int .i64 0, .int .i64 0, .int .i64 0].toArray) (by kernel_rfl) rfl ?_
            clear HS
            intro g117 w118 hg119 HS
            refine St.stores (cs' := [.int .u64 r.s, .int .u32 r.te, .int .u32 r.tq, .int .u32 r.be, .int .u32 r.bq, .int .i64 r.nx, .int .i64 r.tt, .int .i64 r.rt]) HS [.int .u64 r.s, .int .u32 r.te, .int .u32 r.tq, .int .u32 r.be, .int .u32 r.bq, .int .i64 r.nx, .int .i64 r.tt, .int .i64 r.rt] 8 rfl rfl (by rfl) (by kernel_rfl) rfl (by simp) rfl ?_
            clear HS
            intro w120 HS
            refine wpList_nil ?_
            refine hK114 _ _ ?_
            refine wp_seq_k (fun K121 hK122 => ?_)
            refine c_region (fun ops124 hops123 => ?_)
            clear hops123
            refine p_run _ (x_move (u5) rfl rfl) rfl ?_
            refine p_run _ (x_field (j := 0) _ _ rfl rfl Try.underlying32 rfl (by rfl) rfl) rfl ?_
            refine p_run _ (x_load (.int .u64 r.s) rfl rfl (bkCell (HS.get (.head _)) 0 _ rfl) (by rfl)) rfl ?_
            refine p_run (l' := (rcV r A c :: .pointer (some ⟨g5, 0, none⟩) :: .slice none 0 0 :: .int .i64 0 :: .int .u64 (uv (UInt64.ofNat hv.toNat)) :: u5 :: undef :: u7 :: .pointer (some ⟨g117, 0, none⟩) :: rcV r A c :: .bool true :: .bool false :: q22.a :: q22.b :: .pointer (some ⟨g5, 0, none⟩) :: .int .u32 r.e :: V8.l qz63 (V8.l qz64 (V8.l qz65 (V8.l qz66 (.slice A r.sn.length c :: .int .i64 (r.sn.length : Int) :: .int .i64 (r.sn.length : Int) :: .bool (decide ((r.sn.length : Int) < (r.sn.length : Int))) :: u52 :: u53 :: u54 :: u55 :: u56 :: u57 :: u58 :: u59 :: u60 :: u61 :: u62 :: u63 :: u64 :: u65 :: u66 :: u67 :: u68 :: u69 :: u70 :: u71 :: u72 :: .pointer (some ⟨g5, 8, none⟩) :: .agg ([.int .u64 r.s, .int .u32 r.te, .int .u32 r.tq, .int .u32 r.be, .int .u32 r.bq, .int .i64 r.nx, .int .i64 r.tt, .int .i64 r.rt] : List Value).toArray :: u5 :: .pointer (some ⟨g117, 0, none⟩) :: .int .u64 r.s :: .agg ([.int .u64 8, .int .u64 r.s] : List Value).toArray :: U16n2 (U4n2 (undef :: undef :: undef :: [])))))))) _ (x_build [.int .u64 8, .int .u64 r.s] rfl (by kernel_rfl)) rfl ?_
            refine St.wLit1 HS [.int .u64 8, .int .u64 r.s] 2 (.agg [.int .u64 0, .int .u64 0].toArray) (.agg ([.int .u64 8, .int .u64 r.s] : List Value).toArray) Try.underlying101 (by kernel_rfl) (by decide) rfl rfl rfl ?_
            clear HS
            intro g125 w126 hg127 HS
            refine w_call [.slice (some ⟨g125, 0, none⟩) 1 1] Try.func37 (by kernel_rfl) (by rfl) rfl ?_
            replace HS : St w (fun _ => False) w126 ([blk g125 [.int .u64 8, .int .u64 (uv (UInt64.ofNat r.s.toNat))] 79, blk g117 [.int .u64 r.s, .int .u32 r.te, .int .u32 r.tq, .int .u32 r.be, .int .u32 r.bq, .int .i64 r.nx, .int .i64 r.tt, .int .i64 r.rt] 32, row kByte rfl 5 u5 (q7 r r.sn.length), blk g5 (.int .u32 r.e :: .bool r.p :: .int .u32 r.b :: .int .u32 r.q :: .int .i64 r.l :: .int .u32 r.xe :: .int .u32 r.xq :: .slice A r.sn.length c :: .int .u64 r.s :: .int .u32 r.te :: .int .u32 r.tq :: .int .u32 r.be :: .int .u32 r.bq :: .int .i64 r.nx :: .int .i64 r.tt :: .int .i64 r.rt :: []) 34]) := by
              rw [← hs_]
              exact HS
            replace HS : St w (fun _ => False) w126 (blk g125 (nums .u64 (fsN [(8, UInt64.ofNat r.s.toNat)])) 79 :: blk g117 [.int .u64 r.s, .int .u32 r.te, .int .u32 r.tq, .int .u32 r.be, .int .u32 r.bq, .int .i64 r.nx, .int .i64 r.tt, .int .i64 r.rt] 32 :: row kByte rfl 5 u5 (q7 r r.sn.length) :: blk g5 (.int .u32 r.e :: .bool r.p :: .int .u32 r.b :: .int .u32 r.q :: .int .i64 r.l :: .int .u32 r.xe :: .int .u32 r.xq :: .slice A r.sn.length c :: .int .u64 r.s :: .int .u32 r.te :: .int .u32 r.tq :: .int .u32 r.be :: .int .u32 r.bq :: .int .i64 r.nx :: .int .i64 r.tt :: .int .i64 r.rt :: []) 34 :: []) := HS
            refine (fields_any (fs := [(8, UInt64.ofNat r.s.toNat)]) HS (fw_cons (by decide) fw_nil) (by simp)).mono ?_
            clear HS
            rintro e w129 ⟨v128, rfl, HS⟩
            rw [fsB_cons 8 (x := r.s) (by omega) (by omega), fsB_nil, List.append_nil] at HS
            obtain ⟨A130, c131, hv132, hcp133, -⟩ := row_reads (HS.get (.head _))
            subst hv132
            refine ⟨_, rfl, ?_⟩
            replace HS := (HS.front 3 rfl)
            refine St.wAppend HS (.int .u8 0) 1 Try.underlying22 (by kernel_rfl) rfl (by decide) (by decide) (nB 8 r.s) _ _ _ rfl rfl (row_rd (HS.get (.tail _ (.head _)))).2.2 (fun _ _ h => h) (by have := q7_len r r.sn.length; have := nB_len 8 r.s; omega) ?_
            clear HS
            intro v134 w135 HS
            refine p_run _ (x_assign (v134) rfl rfl) rfl ?_
            refine wpList_nil ?_
            obtain ⟨qz136, hqz136⟩ : ∃ q_ : V8, q_ = ⟨.slice A r.sn.length c, .int .i64 (r.sn.length : Int), .int .i64 (r.sn.length : Int), .bool (decide ((r.sn.length : Int) < (r.sn.length : Int))), u52, u53, u54, u55⟩ := ⟨_, rfl⟩
            obtain ⟨qz137, hqz137⟩ : ∃ q_ : V8, q_ = ⟨u56, u57, u58, u59, u60, u61, u62, u63⟩ := ⟨_, rfl⟩
            obtain ⟨qz138, hqz138⟩ : ∃ q_ : V8, q_ = ⟨u64, u65, u66, u67, u68, u69, u70, u71⟩ := ⟨_, rfl⟩
            obtain ⟨qz139, hqz139⟩ : ∃ q_ : V8, q_ = ⟨u72, .pointer (some ⟨g5, 8, none⟩), .agg ([.int .u64 r.s, .int .u32 r.te, .int .u32 r.tq, .int .u32 r.be, .int .u32 r.bq, .int .i64 r.nx, .int .i64 r.tt, .int .i64 r.rt] : List Value).toArray, u5, .pointer (some ⟨g117, 0, none⟩), .int .u64 r.s, .agg ([.int .u64 8, .int .u64 r.s] : List Value).toArray, .slice (some ⟨g125, 0, none⟩) 1 1⟩ := ⟨_, rfl⟩
            refine fr_at (l' := (rcV r A c :: .pointer (some ⟨g5, 0, none⟩) :: .slice none 0 0 :: .int .i64 0 :: .int .u64 (uv (UInt64.ofNat hv.toNat)) :: v134 :: undef :: u7 :: .pointer (some ⟨g117, 0, none⟩) :: rcV r A c :: .bool true :: .bool false :: q22.a :: q22.b :: .pointer (some ⟨g5, 0, none⟩) :: .int .u32 r.e :: V8.l qz63 (V8.l qz64 (V8.l qz65 (V8.l qz66 (V8.l qz136 (V8.l qz137 (V8.l qz138 (V8.l qz139 (.slice A130 ((nB 8 r.s).length) c131 :: v134 :: U16n2 (U4n2 ([])))))))))))) (by subst hqz136 hqz137 hqz138 hqz139; rfl) ?_
            refine hK122 _ _ ?_
            refine wp_seq_k (fun K140 hK141 => ?_)
            skip
            · skip
              skip
              replace HS : St _ _ _ (row kByte rfl _ _ (q8 r) :: _) := HS
              refine c_region (fun ops143 hops142 => ?_)
              clear hops142
              refine p_run _ (x_move (v134) rfl rfl) rfl ?_
              refine p_run _ (x_field (j := 1) _ _ rfl rfl Try.underlying32 rfl (by rfl) rfl) rfl ?_
              refine p_run _ (x_loads [.int .u32 r.te, .int .u32 r.tq] 2 rfl rfl (bkCells (HS.get (.tail _ (.tail _ (.tail _ (.head _))))) 1 _ rfl) (by rfl) (by kernel_rfl) rfl) rfl ?_
              refine p_run _ (x_field (j := 3) _ _ rfl rfl Try.underlying32 rfl (by rfl) rfl) rfl ?_
              refine p_run _ (x_loads [.int .u32 r.be, .int .u32 r.bq] 2 rfl rfl (bkCells (HS.get (.tail _ (.tail _ (.tail _ (.head _))))) 3 _ rfl) (by rfl) (by kernel_rfl) rfl) rfl ?_
              refine St.wLit HS (cs := [.int .u32 r.te, .int .u32 r.tq, .int .u32 r.be, .int .u32 r.bq]) 2 (.agg [.int .u32 0, .int .u32 0].toArray) Try.underlying81 (by kernel_rfl) (by decide) (by kernel_rfl) ?_
              clear HS
              intro g144 w145 hg146 HS
              refine w_call [v134, .slice (some ⟨g144, 0, none⟩) 2 2] Try.func38 (by kernel_rfl) (by rfl) rfl ?_
              replace HS := (HS.front 1 rfl)
              obtain ⟨A147, c148, hv_, hsl_⟩ := Own.sl (row_own HS.hs.head)
              subst hv_
              refine (r3put_any _ _ c148 (q8 r) hsl_ _ 2 [(r.te, r.tq), (r.be, r.bq)] (lit_reads (HS.get (.tail _ (.head _))) (lb_reps2 _ r.te r.tq r.be r.bq) (by simp)) (by intro y hy; simp only [List.mem_cons, List.not_mem_nil, or_false] at hy; rcases hy with rfl | rfl; exact ⟨hw.te, hw.tq⟩; exact ⟨hw.be, hw.bq⟩) (by simp only [List.length_cons, List.length_nil]; have := (q9_len r).1; omega)).mono ?_
              rintro e w150 ⟨v149, rfl, hk_⟩
              clear hsl_
              replace HS := HS.more hk_
              clear hk_
              replace HS : St _ _ _ (row kByte rfl _ _ (q9 r) :: _) := HS
              refine ⟨_, rfl, ?_⟩
              refine fr_to (l' := (rcV r A c :: .pointer (some ⟨g5, 0, none⟩) :: .slice none 0 0 :: .int .i64 0 :: .int .u64 (uv (UInt64.ofNat hv.toNat)) :: .slice A147 ((q8 r).length) c148 :: undef :: u7 :: .pointer (some ⟨g117, 0, none⟩) :: rcV r A c :: .bool true :: .bool false :: q22.a :: q22.b :: .pointer (some ⟨g5, 0, none⟩) :: .int .u32 r.e :: V8.l qz63 (V8.l qz64 (V8.l qz65 (V8.l qz66 (V8.l qz136 (V8.l qz137 (V8.l qz138 (V8.l qz139 (.slice A130 ((nB 8 r.s).length) c131 :: .slice A147 ((q8 r).length) c148 :: .slice A147 ((q8 r).length) c148 :: .pointer (some ⟨g117, 1, none⟩) :: .agg ([.int .u32 r.te, .int .u32 r.tq] : List Value).toArray :: .pointer (some ⟨g117, 3, none⟩) :: .agg ([.int .u32 r.be, .int .u32 r.bq] : List Value).toArray :: .slice (some ⟨g144, 0, none⟩) 2 2 :: v149 :: U8n2 (U4n2 (undef :: [])))))))))))) rfl ?_
              refine p_run _ (x_assign (v149) rfl rfl) rfl ?_
              refine wpList_nil ?_
              refine hK141 _ _ ?_
              refine wp_seq_k (fun K151 hK152 => ?_)
              refine c_region (fun ops154 hops153 => ?_)
              clear hops153
              refine p_run _ (x_move (v149) rfl rfl) rfl ?_
              refine p_run _ (x_field (j := 5) _ _ rfl rfl Try.underlying32 rfl (by rfl) rfl) rfl ?_
              refine p_run _ (x_load (.int .i64 r.nx) rfl rfl (bkCell (HS.get (.tail _ (.tail _ (.tail _ (.tail _ (.tail _ (.head _))))))) 5 _ rfl) (by rfl)) rfl ?_
              refine p_run _ (x_conv (k := .i64) (m := r.nx) .u8 ((bv (UInt8.ofNat r.nx.toNat))) rfl (by rw [Try.underlying3]; rfl) Try.underlying5 rfl (u8_conv (by omega) (by omega))) rfl ?_
              refine p_run _ (x_field (j := 6) _ _ rfl rfl Try.underlying32 rfl (by rfl) rfl) rfl ?_
              refine p_run (l' := (rcV r A c :: .pointer (some ⟨g5, 0, none⟩) :: .slice none 0 0 :: .int .i64 0 :: .int .u64 (uv (UInt64.ofNat hv.toNat)) :: v149 :: undef :: u7 :: .pointer (some ⟨g117, 0, none⟩) :: rcV r A c :: .bool true :: .bool false :: q22.a :: q22.b :: .pointer (some ⟨g5, 0, none⟩) :: .int .u32 r.e :: V8.l qz63 (V8.l qz64 (V8.l qz65 (V8.l qz66 (V8.l qz136 (V8.l qz137 (V8.l qz138 (V8.l qz139 (.slice A130 ((nB 8 r.s).length) c131 :: .slice A147 ((q8 r).length) c148 :: .slice A147 ((q8 r).length) c148 :: .pointer (some ⟨g117, 1, none⟩) :: .agg ([.int .u32 r.te, .int .u32 r.tq] : List Value).toArray :: .pointer (some ⟨g117, 3, none⟩) :: .agg ([.int .u32 r.be, .int .u32 r.bq] : List Value).toArray :: .slice (some ⟨g144, 0, none⟩) 2 2 :: v149 :: v149 :: .pointer (some ⟨g117, 5, none⟩) :: .int .i64 r.nx :: .int .u8 (bv (UInt8.ofNat r.nx.toNat)) :: .pointer (some ⟨g117, 6, none⟩) :: .int .i64 r.tt :: U4n2 (undef :: undef :: undef :: []))))))))))) _ (x_load (.int .i64 r.tt) rfl rfl (bkCell (HS.get (.tail _ (.tail _ (.tail _ (.tail _ (.tail _ (.head _))))))) 6 _ rfl) (by rfl)) rfl ?_
              refine p_run _ (x_conv (k := .i64) (m := r.tt) .u8 ((bv (UInt8.ofNat r.tt.toNat))) rfl (by rw [Try.underlying3]; rfl) Try.underlying5 rfl (u8_conv (by omega) (by omega))) rfl ?_
              refine p_run _ (x_field (j := 7) _ _ rfl rfl Try.underlying32 rfl (by rfl) rfl) rfl ?_
              refine p_run _ (x_load (.int .i64 r.rt) rfl rfl (bkCell (HS.get (.tail _ (.tail _ (.tail _ (.tail _ (.tail _ (.head _))))))) 7 _ rfl) (by rfl)) rfl ?_
              refine p_run _ (x_arith (k := .i64) (m := r.rt) (n := 1) .add ((r.rt + 1)) rfl rfl rfl (show IntKind.i64.wrap (r.rt + 1) = (r.rt + 1) from (wr64' (by omega))) rfl) rfl ?_
              refine p_run _ (x_conv (k := .i64) (m := (r.rt + 1)) .u8 ((bv (UInt8.ofNat (r.rt + 1).toNat))) rfl (by rw [Try.underlying3]; rfl) Try.underlying5 rfl (u8_conv (by omega) (by omega))) rfl ?_
              refine St.wLit HS (cs := [.int .u8 (bv (UInt8.ofNat r.nx.toNat)), .int .u8 (bv (UInt8.ofNat r.tt.toNat)), .int .u8 (bv (UInt8.ofNat (r.rt + 1).toNat))]) 1 (.int .u8 0) Try.underlying22 (by kernel_rfl) (by decide) (by kernel_rfl) ?_
              clear HS
              intro g155 w156 hg157 HS
              replace HS := (HS.front 1 rfl)
              refine St.wAppend HS (.int .u8 0) 1 Try.underlying22 (by kernel_rfl) rfl (by decide) (by decide) [(UInt8.ofNat r.nx.toNat), (UInt8.ofNat r.tt.toNat), (UInt8.ofNat (r.rt + 1).toNat)] _ _ _ rfl rfl (rd_blkn (xs := [(UInt8.ofNat r.nx.toNat), (UInt8.ofNat r.tt.toNat), (UInt8.ofNat (r.rt + 1).toNat)]) (HS.get (.tail _ (.head _))) rfl (by decide)) (fun _ _ h => h) (by have := (q9_len r).2; omega) ?_
              clear HS
              intro v158 w159 HS
              refine fr_to (l' := (rcV r A c :: .pointer (some ⟨g5, 0, none⟩) :: .slice none 0 0 :: .int .i64 0 :: .int .u64 (uv (UInt64.ofNat hv.toNat)) :: v149 :: undef :: u7 :: .pointer (some ⟨g117, 0, none⟩) :: rcV r A c :: .bool true :: .bool false :: q22.a :: q22.b :: .pointer (some ⟨g5, 0, none⟩) :: .int .u32 r.e :: V8.l qz63 (V8.l qz64 (V8.l qz65 (V8.l qz66 (V8.l qz136 (V8.l qz137 (V8.l qz138 (V8.l qz139 (.slice A130 ((nB 8 r.s).length) c131 :: .slice A147 ((q8 r).length) c148 :: .slice A147 ((q8 r).length) c148 :: .pointer (some ⟨g117, 1, none⟩) :: .agg ([.int .u32 r.te, .int .u32 r.tq] : List Value).toArray :: .pointer (some ⟨g117, 3, none⟩) :: .agg ([.int .u32 r.be, .int .u32 r.bq] : List Value).toArray :: .slice (some ⟨g144, 0, none⟩) 2 2 :: v149 :: v149 :: .pointer (some ⟨g117, 5, none⟩) :: .int .i64 r.nx :: .int .u8 (bv (UInt8.ofNat r.nx.toNat)) :: .pointer (some ⟨g117, 6, none⟩) :: .int .i64 r.tt :: .int .u8 (bv (UInt8.ofNat r.tt.toNat)) :: .pointer (some ⟨g117, 7, none⟩) :: .int .i64 r.rt :: .int .i64 (r.rt + 1) :: .int .u8 (bv (UInt8.ofNat (r.rt + 1).toNat)) :: .slice (some ⟨g155, 0, none⟩) 3 3 :: v158 :: [])))))))))) rfl ?_
              refine p_run _ (x_assign (v158) rfl rfl) rfl ?_
              refine p_run _ (x_assign (.int .i64 0) rfl rfl) rfl ?_
              refine wpList_nil ?_
              refine hK152 _ _ ?_
              refine wp_ret ?_
              try simp only [Exit.inBlock, Exit.then]
              refine c_ret (.tuple [v158, .int .i64 0].toArray) (r_tmp2 rfl rfl rfl) ?_
              rw [nB1' (by omega) (by omega), nB1' (by omega) (by omega), nB1' (by omega) (by omega), q_end] at HS
              obtain ⟨e1, e2⟩ := bb_yes hok
              rw [e1, e2]
              obtain ⟨A', c', hv_, -, -⟩ := row_reads (HS.get (.head _))
              subst hv_
              exact ⟨_, _, rfl, (((((((HS.front 1 rfl).drop.front 1 rfl).drop.front 1 rfl).drop.front 1 rfl).drop.front 1 rfl).drop.front 1 rfl).drop.front 1 rfl).drop⟩
    clear hK20
    refine wp_seq_k (fun K160 hK161 => ?_)
    refine c_region (fun ops163 hops162 => ?_)
    clear hops162
    refine p_run _ (x_field (j := 1) _ _ rfl rfl Try.underlying34 rfl (by rfl) rfl) rfl ?_
    refine p_run _ (x_load (.bool r.p) rfl rfl (bkCell (HS.get (.head _)) 1 _ rfl) (by rfl)) rfl ?_
    refine wpList_nil ?_
    refine fr_at (l' := (rcV r A c :: .pointer (some ⟨g5, 0, none⟩) :: .slice none 0 0 :: .int .i64 0 :: .int .u64 0 :: U4n2 (rcV r A c :: .bool true :: .bool false :: .pointer (some ⟨g5, 1, none⟩) :: .bool r.p :: U64n2 (U16n2 (U8n2 ([])))))) rfl ?_
    refine hK161 _ _ ?_
    refine c_cond (t := r.p) rfl (fun hc164 => ?_) (fun hc164 => ?_)
    · refine c_region (fun ops166 hops165 => ?_)
      clear hops165
      refine p_run _ (x_assign (.int .u64 1) rfl rfl) rfl ?_
      refine wpList_nil ?_
      refine fr_at (l' := (rcV r A c :: .pointer (some ⟨g5, 0, none⟩) :: .slice none 0 0 :: .int .i64 0 :: .int .u64 1 :: U4n2 (rcV r A c :: .bool true :: .bool false :: .pointer (some ⟨g5, 1, none⟩) :: .bool r.p :: U64n2 (U16n2 (U8n2 ([])))))) rfl ?_
      exact hT21 (1 : Int) ⟨.pointer (some ⟨g5, 1, none⟩), .bool r.p, undef, undef, undef, undef, undef, undef⟩ _ HS (by rw [hc164]; rfl)
    · refine wp_skip ?_
      exact hT21 (0 : Int) ⟨.pointer (some ⟨g5, 1, none⟩), .bool r.p, undef, undef, undef, undef, undef, undef⟩ _ HS (by rw [hc164]; rfl)
end Go.Proofs.Ytkiiangookibnaa
