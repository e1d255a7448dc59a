/- The document's disk: Read. -/
import Derived.Test.YtjholgfaipfmbaaRd5
set_option linter.unusedVariables false
set_option linter.unusedSimpArgs false
namespace Go.Proofs.Ytjholgfaipfmbaa
open Go.RowKit Go.Proofs.YtjholgfaipfmbaaW.PrintWords Go.Proofs.YtjholgfaipfmbaaW.PrintLast
section
variable {w0 W : World} {F : Nat → Prop} {L : List Res} {vs vb vp : Value} {R : Rk}
def Rk.readE (R : Rk) (i : Int) : Int := if R.there i = true then (if R.bad.getD i.toNat false = true then 43 else 0) else 41
def Rk.readP (R : Rk) (i : Int) : List Int := if R.there i = true then (if R.bad.getD i.toNat false = true then zpg else lastW R.pending i (R.stable.getD i.toNat zpg)) else zpg
theorem bo_get {w : World} {A : Option Addr} {n : Nat} {ps : List Bool} (h : Kd.bool.C w A n ps) (j : Nat) (hj : j < ps.length) : ∃ ad, A = some ad ∧ w.cell? (ad.add (j * 1)) = some (.bool (ps.getD j false)) := by
  obtain ⟨ad, e, hc⟩ := h.2.2 (by have := h.1; omega)
  obtain ⟨c, hs, hr, hcell⟩ := hc j _ (List.getElem?_eq_getElem hj)
  refine ⟨ad, e, ?_⟩
  rw [List.getD_eq_getElem?_getD, List.getElem?_eq_getElem hj]
  exact hcell 0 (.bool ps[j]) (by rw [show c = [.bool ps[j]] from hr]; rfl)
theorem lw_snoc (l : List (Int × List Int)) (x : Int × List Int) (i : Int) (p : List Int) : lastW (l ++ [x]) i p = if x.1 = i then x.2 else lastW l i p := by unfold lastW; rw [List.foldl_append]; rfl
theorem lw_take {l : List (Int × List Int)} {m : Nat} {x : Int × List Int} (hx : l[m]? = some x) (i : Int) (p : List Int) : lastW (l.take (m + 1)) i p = if x.1 = i then x.2 else lastW (l.take m) i p := by
  obtain ⟨hm, rfl⟩ := List.getElem?_eq_some_iff.1 hx
  rw [List.take_succ_eq_append_getElem hm, lw_snoc]
theorem cell_page {w : World} {ad : Addr} {a : Int} {p : List Int} (h : ∀ i u, (.int .i64 a :: nums .u8 p : List Value)[i]? = some u → w.cell? (ad.add i) = some u) : ∀ j v, (nums .u8 p)[j]? = some v → w.cell? ((ad.add 1).add j) = some v := fun j v hv => by
  rw [add_add, Nat.add_comm]
  exact h (j + 1) v hv

set_option maxRecDepth 10000 in
set_option maxHeartbeats 1000000 in
theorem rkRead_any (HS : St w0 F W (rk vs vb vp R L)) (hb : R.bad.length = R.stable.length) (hT : ∀ p ∈ R.stable, p.length = 256) (hpn : R.pending.length ≤ 1000) (i : Int) : Calls Try.prog 28 #[.agg ([vs, vb, vp, .bool R.counted, .int .i64 R.left, .bool R.down] : List Value).toArray, .int .i64 i] W fun e w' => e = .returned (.tuple #[.agg (nums .u8 (R.readP i)).toArray, .int .i64 (R.readE i)]) ∧ St w0 F w' (rk vs vb vp R L) := by
  rcases ht : R.there i with _ | _
  · skip
    refine c_enter Try.func28 rfl 45 rfl [.agg ([vs, vb, vp, .bool R.counted, .int .i64 R.left, .bool R.down] : List Value).toArray, .int .i64 i, undef, undef, undef, undef, undef, undef, undef, undef, undef, undef, undef, undef, undef, undef, undef, undef, undef, undef, undef, undef, undef, undef, undef, undef, undef, undef, undef, undef, undef, undef, undef, undef, undef, undef, undef, undef, undef, undef, undef, undef, undef, undef, undef] rfl ?_
    refine wp_seq_k (fun K1 hK2 => ?_)
    refine c_region (fun ops4 hops3 => ?_)
    clear hops3
    refine St.wBox HS (cs := [vs, vb, vp, .bool R.counted, .int .i64 R.left, .bool R.down]) (.agg ([vs, vb, vp, .bool R.counted, .int .i64 R.left, .bool R.down] : List Value).toArray) rfl rfl ?_
    clear HS
    intro g5 w6 hg7 HS
    refine St.wAlloc HS (cs := ((nums .u8 zpg))) (.agg ((nums .u8 zpg)).toArray) (by kernel_rfl) rfl ?_
    clear HS
    intro g8 w9 hg10 HS
    refine p_run (l' := _) _ (x_assign (.int .i64 0) rfl rfl) rfl ?_
    refine wpList_nil ?_
    refine fr_at (l' := [.agg ([vs, vb, vp, .bool R.counted, .int .i64 R.left, .bool R.down] : List Value).toArray, .int .i64 i, .pointer (some ⟨g5, 0, none⟩), undef, .pointer (some ⟨g8, 0, none⟩), .int .i64 0, undef, undef, undef, undef, undef, undef, undef, undef, undef, undef, undef, undef, undef, undef, undef, undef, undef, undef, undef, undef, undef, undef, undef, undef, undef, undef, undef, undef, undef, undef, undef, undef, undef, undef, undef, undef, undef, undef, undef]) rfl ?_
    refine hK2 _ _ ?_
    refine wp_seq_k (fun K11 hK12 => ?_)
    refine wp_seq_k (fun K13 hK14 => ?_)
    refine c_region (fun ops16 hops15 => ?_)
    clear hops15
    refine p_run (l' := _) _ (x_loads [vs, vb, vp, .bool R.counted, .int .i64 R.left, .bool R.down] 6 rfl rfl (bkCells (HS.get (.tail _ (.head _))) 0 _ rfl) (by rfl) (by kernel_rfl) rfl) rfl ?_
    refine p_run (l' := _) _ (x_move (.int .i64 i) rfl rfl) rfl ?_
    refine w_call [.agg ([vs, vb, vp, .bool R.counted, .int .i64 R.left, .bool R.down] : List Value).toArray, .int .i64 i] Try.func35 (by kernel_rfl) (by rfl) rfl ?_
    replace HS := (((HS.front 4 rfl).front 4 rfl).front 4 rfl)
    refine (rkThere_any HS _).mono ?_
    clear HS
    rintro e w17 ⟨he_, HS⟩
    rw [ht] at he_
    subst he_
    refine ⟨_, rfl, ?_⟩
    refine p_run (l' := [.agg ([vs, vb, vp, .bool R.counted, .int .i64 R.left, .bool R.down] : List Value).toArray, .int .i64 i, .pointer (some ⟨g5, 0, none⟩), undef, .pointer (some ⟨g8, 0, none⟩), .int .i64 0, undef, .agg ([vs, vb, vp, .bool R.counted, .int .i64 R.left, .bool R.down] : List Value).toArray, .int .i64 i, .bool false, .bool true, undef, undef, undef, undef, undef, undef, undef, undef, undef, undef, undef, undef, undef, undef, undef, undef, undef, undef, undef, undef, undef, undef, undef, undef, undef, undef, undef, undef, undef, undef, undef, undef, undef, undef]) _ (x_not false rfl rfl) rfl ?_
    refine wpList_nil ?_
    refine hK14 _ _ ?_
    refine c_true rfl ?_
    refine wp_seq_k (fun K18 hK19 => ?_)
    refine c_region (fun ops21 hops20 => ?_)
    clear hops20
    refine p_run (l' := _) _ (x_build ((nums .u8 zpg)) rfl (by kernel_rfl)) rfl ?_
    refine St.stores (cs' := ((nums .u8 zpg))) (HS.front 3 rfl) ((nums .u8 zpg)) 256 rfl rfl (nums_one _ _) (by kernel_rfl) (by simp [nums_length, zlen]) (by simp [nums_length, zlen]) (lay_all _ _ (by simp [nums_length, zlen])) ?_
    clear HS
    intro w22 HS
    refine p_run (l' := _) _ (x_assign (.int .i64 41) rfl rfl) rfl ?_
    refine wpList_nil ?_
    refine fr_at (l' := [.agg ([vs, vb, vp, .bool R.counted, .int .i64 R.left, .bool R.down] : List Value).toArray, .int .i64 i, .pointer (some ⟨g5, 0, none⟩), undef, .pointer (some ⟨g8, 0, none⟩), .int .i64 41, undef, .agg ([vs, vb, vp, .bool R.counted, .int .i64 R.left, .bool R.down] : List Value).toArray, .int .i64 i, .bool false, .bool true, .agg ((nums .u8 zpg)).toArray, undef, undef, undef, undef, undef, undef, undef, undef, undef, undef, undef, undef, undef, undef, undef, undef, undef, undef, undef, undef, undef, undef, undef, undef, undef, undef, undef, undef, undef, undef, undef, undef, undef]) rfl ?_
    refine hK19 _ _ ?_
    refine wp_ret ?_
    try simp only [Exit.inBlock, Exit.then]
    refine c_ret (.tuple [.agg ((nums .u8 zpg)).toArray, .int .i64 41].toArray) (r_ct rfl rfl (run_loadVar_aggn (by rfl) ((nums .u8 zpg)) 256 (by kernel_rfl) (by simp [nums_length, zlen]) (bkCells (HS.get (.head _)) 0 _ (whole _))) rfl) ?_
    have e1 : R.readP i = zpg := if_neg (by rw [ht]; decide)
    have e2 : R.readE i = 41 := if_neg (by rw [ht]; decide)
    rw [e1, e2]
    exact ⟨rfl, ((((HS.drop.front 3 rfl).drop.front 2 rfl).front 2 rfl).front 2 rfl)⟩
  · skip
    have hi2 := of_decide_eq_true ht
    obtain ⟨i, rfl⟩ := Int.eq_ofNat_of_zero_le hi2.1
    have hib : i < R.bad.length := by omega
    obtain ⟨Ab, cb, hvb, hcb, -⟩ := row_reads (HS.get (.tail _ (.head _)))
    subst hvb
    rcases hbad : R.bad.getD i false with _ | _
    · skip
      obtain ⟨As, cs, hvs, hcs, -⟩ := row_reads (HS.get (.head _))
      subst hvs
      obtain ⟨Ap, cp, hvp, hcp, -⟩ := row_reads (HS.get (.tail _ (.tail _ (.head _))))
      subst hvp
      obtain ⟨O, hO⟩ : ∃ O, R.stable[i]? = some O := ⟨_, List.getElem?_eq_getElem (by omega)⟩
      have hOl := hT O (List.mem_of_getElem? hO)
      have hOd : R.stable.getD i zpg = O := by rw [List.getD_eq_getElem?_getD, hO]; rfl
      refine c_enter Try.func28 rfl 45 rfl [.agg ([.slice As R.stable.length cs, .slice Ab R.bad.length cb, .slice Ap R.pending.length cp, .bool R.counted, .int .i64 R.left, .bool R.down] : List Value).toArray, .int .i64 (i : Int), undef, undef, undef, undef, undef, undef, undef, undef, undef, undef, undef, undef, undef, undef, undef, undef, undef, undef, undef, undef, undef, undef, undef, undef, undef, undef, undef, undef, undef, undef, undef, undef, undef, undef, undef, undef, undef, undef, undef, undef, undef, undef, undef] rfl ?_
      refine wp_seq_k (fun K1 hK2 => ?_)
      refine c_region (fun ops4 hops3 => ?_)
      clear hops3
      refine St.wBox HS (cs := [.slice As R.stable.length cs, .slice Ab R.bad.length cb, .slice Ap R.pending.length cp, .bool R.counted, .int .i64 R.left, .bool R.down]) (.agg ([.slice As R.stable.length cs, .slice Ab R.bad.length cb, .slice Ap R.pending.length cp, .bool R.counted, .int .i64 R.left, .bool R.down] : List Value).toArray) rfl rfl ?_
      clear HS
      intro g5 w6 hg7 HS
      refine St.wAlloc HS (cs := ((nums .u8 zpg))) (.agg ((nums .u8 zpg)).toArray) (by kernel_rfl) rfl ?_
      clear HS
      intro g8 w9 hg10 HS
      refine p_run (l' := _) _ (x_assign (.int .i64 0) rfl rfl) rfl ?_
      refine wpList_nil ?_
      refine fr_at (l' := [.agg ([.slice As R.stable.length cs, .slice Ab R.bad.length cb, .slice Ap R.pending.length cp, .bool R.counted, .int .i64 R.left, .bool R.down] : List Value).toArray, .int .i64 (i : Int), .pointer (some ⟨g5, 0, none⟩), undef, .pointer (some ⟨g8, 0, none⟩), .int .i64 0, undef, undef, undef, undef, undef, undef, undef, undef, undef, undef, undef, undef, undef, undef, undef, undef, undef, undef, undef, undef, undef, undef, undef, undef, undef, undef, undef, undef, undef, undef, undef, undef, undef, undef, undef, undef, undef, undef, undef]) rfl ?_
      refine hK2 _ _ ?_
      refine wp_seq_k (fun K11 hK12 => ?_)
      refine wp_seq_k (fun K13 hK14 => ?_)
      refine c_region (fun ops16 hops15 => ?_)
      clear hops15
      refine p_run (l' := _) _ (x_loads [.slice As R.stable.length cs, .slice Ab R.bad.length cb, .slice Ap R.pending.length cp, .bool R.counted, .int .i64 R.left, .bool R.down] 6 rfl rfl (bkCells (HS.get (.tail _ (.head _))) 0 _ rfl) (by rfl) (by kernel_rfl) rfl) rfl ?_
      refine p_run (l' := _) _ (x_move (.int .i64 (i : Int)) rfl rfl) rfl ?_
      refine w_call [.agg ([.slice As R.stable.length cs, .slice Ab R.bad.length cb, .slice Ap R.pending.length cp, .bool R.counted, .int .i64 R.left, .bool R.down] : List Value).toArray, .int .i64 (i : Int)] Try.func35 (by kernel_rfl) (by rfl) rfl ?_
      replace HS := (((HS.front 4 rfl).front 4 rfl).front 4 rfl)
      refine (rkThere_any HS _).mono ?_
      clear HS
      rintro e w17 ⟨he_, HS⟩
      rw [ht] at he_
      subst he_
      refine ⟨_, rfl, ?_⟩
      refine p_run (l' := [.agg ([.slice As R.stable.length cs, .slice Ab R.bad.length cb, .slice Ap R.pending.length cp, .bool R.counted, .int .i64 R.left, .bool R.down] : List Value).toArray, .int .i64 (i : Int), .pointer (some ⟨g5, 0, none⟩), undef, .pointer (some ⟨g8, 0, none⟩), .int .i64 0, undef, .agg ([.slice As R.stable.length cs, .slice Ab R.bad.length cb, .slice Ap R.pending.length cp, .bool R.counted, .int .i64 R.left, .bool R.down] : List Value).toArray, .int .i64 (i : Int), .bool true, .bool false, undef, undef, undef, undef, undef, undef, undef, undef, undef, undef, undef, undef, undef, undef, undef, undef, undef, undef, undef, undef, undef, undef, undef, undef, undef, undef, undef, undef, undef, undef, undef, undef, undef, undef]) _ (x_not true rfl rfl) rfl ?_
      refine wpList_nil ?_
      refine hK14 _ _ ?_
      refine c_false rfl ?_
      refine wp_skip ?_
      refine hK12 _ _ ?_
      refine wp_seq_k (fun K18 hK19 => ?_)
      refine wp_seq_k (fun K20 hK21 => ?_)
      skip
      · skip
        obtain ⟨ab, hab, -⟩ := bo_get (row_C (HS.get (.tail _ (.head _)))).2.2 i hib
        subst hab
        refine c_region (fun ops23 hops22 => ?_)
        clear hops22
        refine p_run (l' := _) _ (x_field (j := 1) _ _ rfl rfl Try.underlying51 rfl (by rfl) rfl) rfl ?_
        refine p_run (l' := _) _ (x_load (.slice (some ab) R.bad.length cb) rfl rfl (bkCell (HS.get (.tail _ (.tail _ (.tail _ (.tail _ (.head _)))))) 1 _ rfl) (by rfl)) rfl ?_
        refine p_run (l' := _) _ (x_move (.int .i64 (i : Int)) rfl rfl) rfl ?_
        refine p_run (l' := [.agg ([.slice As R.stable.length cs, .slice (some ab) R.bad.length cb, .slice Ap R.pending.length cp, .bool R.counted, .int .i64 R.left, .bool R.down] : List Value).toArray, .int .i64 (i : Int), .pointer (some ⟨g5, 0, none⟩), undef, .pointer (some ⟨g8, 0, none⟩), .int .i64 0, undef, .agg ([.slice As R.stable.length cs, .slice (some ab) R.bad.length cb, .slice Ap R.pending.length cp, .bool R.counted, .int .i64 R.left, .bool R.down] : List Value).toArray, .int .i64 (i : Int), .bool true, .bool false, undef, .pointer (some ⟨g5, 1, none⟩), .slice (some ab) R.bad.length cb, .int .i64 (i : Int), .pointer (some ((ab).add (i * 1))), undef, undef, undef, undef, undef, undef, undef, undef, undef, undef, undef, undef, undef, undef, undef, undef, undef, undef, undef, undef, undef, undef, undef, undef, undef, undef, undef, undef, undef]) _ (x_index (A := ab) (j := i * 1) (sz := 1) rfl rfl rfl Try.underlying22 (by kernel_rfl) (by omega) rfl) rfl ?_
        refine p_run (l' := _) _ (x_load (.bool false) rfl rfl (by obtain ⟨a_, ha_, hc_⟩ := bo_get (row_C (HS.get (.tail _ (.head _)))).2.2 i hib; obtain rfl := Option.some.inj ha_; rw [hbad] at hc_; exact hc_) (by rfl)) rfl ?_
        refine wpList_nil ?_
        refine fr_at (l' := [.agg ([.slice As R.stable.length cs, .slice (some ab) R.bad.length cb, .slice Ap R.pending.length cp, .bool R.counted, .int .i64 R.left, .bool R.down] : List Value).toArray, .int .i64 (i : Int), .pointer (some ⟨g5, 0, none⟩), undef, .pointer (some ⟨g8, 0, none⟩), .int .i64 0, undef, .agg ([.slice As R.stable.length cs, .slice (some ab) R.bad.length cb, .slice Ap R.pending.length cp, .bool R.counted, .int .i64 R.left, .bool R.down] : List Value).toArray, .int .i64 (i : Int), .bool true, .bool false, undef, .pointer (some ⟨g5, 1, none⟩), .slice (some ab) R.bad.length cb, .int .i64 (i : Int), .pointer (some ((ab).add (i * 1))), .bool false, undef, undef, undef, undef, undef, undef, undef, undef, undef, undef, undef, undef, undef, undef, undef, undef, undef, undef, undef, undef, undef, undef, undef, undef, undef, undef, undef, undef]) rfl ?_
        refine hK21 _ _ ?_
        refine c_false rfl ?_
        refine wp_skip ?_
        refine hK19 _ _ ?_
        refine wp_seq_k (fun K24 hK25 => ?_)
        refine wp_seq_k (fun K26 hK27 => ?_)
        refine c_region (fun ops29 hops28 => ?_)
        clear hops28
        refine p_run (l' := _) _ (x_field (j := 2) _ _ rfl rfl Try.underlying51 rfl (by rfl) rfl) rfl ?_
        refine p_run (l' := _) _ (x_load (.slice Ap R.pending.length cp) rfl rfl (bkCell (HS.get (.tail _ (.tail _ (.tail _ (.tail _ (.head _)))))) 2 _ rfl) (by rfl)) rfl ?_
        refine p_run (l' := _) _ (x_len rfl rfl Try.underlying49) rfl ?_
        refine p_run (l' := [.agg ([.slice As R.stable.length cs, .slice (some ab) R.bad.length cb, .slice Ap R.pending.length cp, .bool R.counted, .int .i64 R.left, .bool R.down] : List Value).toArray, .int .i64 (i : Int), .pointer (some ⟨g5, 0, none⟩), undef, .pointer (some ⟨g8, 0, none⟩), .int .i64 0, undef, .agg ([.slice As R.stable.length cs, .slice (some ab) R.bad.length cb, .slice Ap R.pending.length cp, .bool R.counted, .int .i64 R.left, .bool R.down] : List Value).toArray, .int .i64 (i : Int), .bool true, .bool false, undef, .pointer (some ⟨g5, 1, none⟩), .slice (some ab) R.bad.length cb, .int .i64 (i : Int), .pointer (some ((ab).add (i * 1))), .bool false, undef, .pointer (some ⟨g5, 2, none⟩), .slice Ap R.pending.length cp, .int .i64 (R.pending.length : Int), .int .i64 ((R.pending.length : Int) - 1), undef, undef, undef, undef, undef, undef, undef, undef, undef, undef, undef, undef, undef, undef, undef, undef, undef, undef, undef, undef, undef, undef, undef]) _ (x_arith (k := .i64) (m := (R.pending.length : Int)) (n := 1) .sub (((R.pending.length : Int) - 1)) rfl rfl rfl (show IntKind.i64.wrap ((R.pending.length : Int) - 1) = ((R.pending.length : Int) - 1) from ((wr64 (by omega)).trans rfl)) rfl) rfl ?_
        refine p_run (l' := _) _ (x_assign (.int .i64 ((R.pending.length : Int) - 1)) rfl rfl) rfl ?_
        refine wpList_nil ?_
        refine fr_at (l' := [.agg ([.slice As R.stable.length cs, .slice (some ab) R.bad.length cb, .slice Ap R.pending.length cp, .bool R.counted, .int .i64 R.left, .bool R.down] : List Value).toArray, .int .i64 (i : Int), .pointer (some ⟨g5, 0, none⟩), undef, .pointer (some ⟨g8, 0, none⟩), .int .i64 0, .int .i64 ((R.pending.length : Int) - 1), .agg ([.slice As R.stable.length cs, .slice (some ab) R.bad.length cb, .slice Ap R.pending.length cp, .bool R.counted, .int .i64 R.left, .bool R.down] : List Value).toArray, .int .i64 (i : Int), .bool true, .bool false, undef, .pointer (some ⟨g5, 1, none⟩), .slice (some ab) R.bad.length cb, .int .i64 (i : Int), .pointer (some ((ab).add (i * 1))), .bool false, undef, .pointer (some ⟨g5, 2, none⟩), .slice Ap R.pending.length cp, .int .i64 (R.pending.length : Int), .int .i64 ((R.pending.length : Int) - 1), undef, undef, undef, undef, undef, undef, undef, undef, undef, undef, undef, undef, undef, undef, undef, undef, undef, undef, undef, undef, undef, undef, undef]) rfl ?_
        refine hK27 _ _ ?_
        refine wp_block ?_
        refine c_loop (ι := Nat) (fun i_ a_ w_ => match i_ with | m => ∃ (u5 : Value) (u22 : Value) (u23 : Value) (u24 : Value) (u25 : Value) (u26 : Value) (u27 : Value) (u28 : Value) (u29 : Value) (u30 : Value) (u31 : Value) (u32 : Value) (u33 : Value) (u34 : Value) (u35 : Value) (u36 : Value) (u37 : Value) (u38 : Value) (u39 : Value), a_ = fr [.agg ([.slice As R.stable.length cs, .slice (some ab) R.bad.length cb, .slice Ap R.pending.length cp, .bool R.counted, .int .i64 R.left, .bool R.down] : List Value).toArray, .int .i64 (i : Int), .pointer (some ⟨g5, 0, none⟩), undef, .pointer (some ⟨g8, 0, none⟩), u5, .int .i64 ((m : Int) - 1), .agg ([.slice As R.stable.length cs, .slice (some ab) R.bad.length cb, .slice Ap R.pending.length cp, .bool R.counted, .int .i64 R.left, .bool R.down] : List Value).toArray, .int .i64 (i : Int), .bool true, .bool false, undef, .pointer (some ⟨g5, 1, none⟩), .slice (some ab) R.bad.length cb, .int .i64 (i : Int), .pointer (some ((ab).add (i * 1))), .bool false, undef, .pointer (some ⟨g5, 2, none⟩), .slice Ap R.pending.length cp, .int .i64 (R.pending.length : Int), .int .i64 ((R.pending.length : Int) - 1), u22, u23, u24, u25, u26, u27, u28, u29, u30, u31, u32, u33, u34, u35, u36, u37, u38, u39, undef, undef, undef, undef, undef] ∧ St w0 F w_ (row kPg rfl 31 (.slice As R.stable.length cs) R.stable :: row Kd.bool rfl 4 (.slice (some ab) R.bad.length cb) R.bad :: row kWr rfl 74 (.slice Ap R.pending.length cp) R.pending :: blk g8 ((nums .u8 zpg)) 31 :: blk g5 [.slice As R.stable.length cs, .slice (some ab) R.bad.length cb, .slice Ap R.pending.length cp, .bool R.counted, .int .i64 R.left, .bool R.down] 51 :: L) ∧ (lastW R.pending (i : Int) O = lastW (R.pending.take m) (i : Int) O ∧ m ≤ R.pending.length)) (fun i_ => match i_ with | m => m) R.pending.length ?_ ?_
        · exact ⟨_, _, _, _, _, _, _, _, _, _, _, _, _, _, _, _, _, _, _, rfl, (((((HS.front 4 rfl).front 4 rfl).front 4 rfl).front 4 rfl).front 4 rfl), ⟨by rw [List.take_length], Nat.le_refl _⟩⟩
        · clear HS
          rintro m a_ w32 ⟨u5, u22, u23, u24, u25, u26, u27, u28, u29, u30, u31, u32, u33, u34, u35, u36, u37, u38, u39, rfl, HS, hI⟩ J30 hJ31
          obtain ⟨hlw, hml⟩ := hI
          refine wp_seq_k (fun K33 hK34 => ?_)
          refine wp_seq_k (fun K35 hK36 => ?_)
          rcases m with _ | m
          · skip
            refine c_region (fun ops38 hops37 => ?_)
            clear hops37
            refine p_run (l' := _) _ (x_move (.int .i64 ((0 : Int) - 1)) rfl rfl) rfl ?_
            refine p_run (l' := _) _ (x_cmp (k := .i64) (m := ((0 : Int) - 1)) (n := 0) .geq false rfl rfl rfl (by decide) rfl) rfl ?_
            refine wpList_nil ?_
            refine fr_at (l' := [.agg ([.slice As R.stable.length cs, .slice (some ab) R.bad.length cb, .slice Ap R.pending.length cp, .bool R.counted, .int .i64 R.left, .bool R.down] : List Value).toArray, .int .i64 (i : Int), .pointer (some ⟨g5, 0, none⟩), undef, .pointer (some ⟨g8, 0, none⟩), u5, .int .i64 ((0 : Int) - 1), .agg ([.slice As R.stable.length cs, .slice (some ab) R.bad.length cb, .slice Ap R.pending.length cp, .bool R.counted, .int .i64 R.left, .bool R.down] : List Value).toArray, .int .i64 (i : Int), .bool true, .bool false, undef, .pointer (some ⟨g5, 1, none⟩), .slice (some ab) R.bad.length cb, .int .i64 (i : Int), .pointer (some ((ab).add (i * 1))), .bool false, undef, .pointer (some ⟨g5, 2, none⟩), .slice Ap R.pending.length cp, .int .i64 (R.pending.length : Int), .int .i64 ((R.pending.length : Int) - 1), .int .i64 ((0 : Int) - 1), .bool false, u24, u25, u26, u27, u28, u29, u30, u31, u32, u33, u34, u35, u36, u37, u38, u39, undef, undef, undef, undef, undef]) rfl ?_
            refine hK36 _ _ ?_
            refine c_false rfl ?_
            refine wp_exit ?_
            refine hK25 _ _ ?_
            refine wp_seq_k (fun K39 hK40 => ?_)
            skip
            · skip
              obtain ⟨as_, x_, has, hx2, hx3, hpc⟩ := pg_get (row_C (HS.get (.head _))).2.2 i (by omega)
              subst has
              obtain rfl : x_ = O := Option.some.inj (hx2.symm.trans hO)
              refine c_region (fun ops42 hops41 => ?_)
              clear hops41
              refine p_run (l' := _) _ (x_field (j := 0) _ _ rfl rfl Try.underlying51 rfl (by rfl) rfl) rfl ?_
              refine p_run (l' := _) _ (x_load (.slice (some as_) R.stable.length cs) rfl rfl (bkCell (HS.get (.tail _ (.tail _ (.tail _ (.tail _ (.head _)))))) 0 _ rfl) (by rfl)) rfl ?_
              refine p_run (l' := _) _ (x_move (.int .i64 (i : Int)) rfl rfl) rfl ?_
              refine p_run (l' := [.agg ([.slice (some as_) R.stable.length cs, .slice (some ab) R.bad.length cb, .slice Ap R.pending.length cp, .bool R.counted, .int .i64 R.left, .bool R.down] : List Value).toArray, .int .i64 (i : Int), .pointer (some ⟨g5, 0, none⟩), undef, .pointer (some ⟨g8, 0, none⟩), u5, .int .i64 ((0 : Int) - 1), .agg ([.slice (some as_) R.stable.length cs, .slice (some ab) R.bad.length cb, .slice Ap R.pending.length cp, .bool R.counted, .int .i64 R.left, .bool R.down] : List Value).toArray, .int .i64 (i : Int), .bool true, .bool false, undef, .pointer (some ⟨g5, 1, none⟩), .slice (some ab) R.bad.length cb, .int .i64 (i : Int), .pointer (some ((ab).add (i * 1))), .bool false, undef, .pointer (some ⟨g5, 2, none⟩), .slice Ap R.pending.length cp, .int .i64 (R.pending.length : Int), .int .i64 ((R.pending.length : Int) - 1), .int .i64 ((0 : Int) - 1), .bool false, u24, u25, u26, u27, u28, u29, u30, u31, u32, u33, u34, u35, u36, u37, u38, u39, .pointer (some ⟨g5, 0, none⟩), .slice (some as_) R.stable.length cs, .int .i64 (i : Int), .pointer (some ((as_).add (i * 256))), undef]) _ (x_index (A := as_) (j := i * 256) (sz := 256) rfl rfl rfl Try.underlying48 (by kernel_rfl) (by omega) rfl) rfl ?_
              refine p_run (l' := _) _ (x_loads ((nums .u8 x_)) 256 rfl rfl hpc (by rfl) (by kernel_rfl) (by simp [hx3, nums_length])) rfl ?_
              refine St.stores (cs' := ((nums .u8 x_))) (HS.front 3 rfl) ((nums .u8 x_)) 256 rfl rfl (nums_one _ _) (by kernel_rfl) (by simp [hx3, nums_length]) (by simp [hx3, nums_length, zlen]) (lay_all _ _ (by simp [hx3, nums_length, zlen])) ?_
              clear HS
              intro w43 HS
              refine p_run (l' := _) _ (x_assign (.int .i64 0) rfl rfl) rfl ?_
              refine wpList_nil ?_
              refine fr_at (l' := [.agg ([.slice (some as_) R.stable.length cs, .slice (some ab) R.bad.length cb, .slice Ap R.pending.length cp, .bool R.counted, .int .i64 R.left, .bool R.down] : List Value).toArray, .int .i64 (i : Int), .pointer (some ⟨g5, 0, none⟩), undef, .pointer (some ⟨g8, 0, none⟩), .int .i64 0, .int .i64 ((0 : Int) - 1), .agg ([.slice (some as_) R.stable.length cs, .slice (some ab) R.bad.length cb, .slice Ap R.pending.length cp, .bool R.counted, .int .i64 R.left, .bool R.down] : List Value).toArray, .int .i64 (i : Int), .bool true, .bool false, undef, .pointer (some ⟨g5, 1, none⟩), .slice (some ab) R.bad.length cb, .int .i64 (i : Int), .pointer (some ((ab).add (i * 1))), .bool false, undef, .pointer (some ⟨g5, 2, none⟩), .slice Ap R.pending.length cp, .int .i64 (R.pending.length : Int), .int .i64 ((R.pending.length : Int) - 1), .int .i64 ((0 : Int) - 1), .bool false, u24, u25, u26, u27, u28, u29, u30, u31, u32, u33, u34, u35, u36, u37, u38, u39, .pointer (some ⟨g5, 0, none⟩), .slice (some as_) R.stable.length cs, .int .i64 (i : Int), .pointer (some ((as_).add (i * 256))), .agg ((nums .u8 x_)).toArray]) rfl ?_
              refine hK40 _ _ ?_
              refine wp_ret ?_
              try simp only [Exit.inBlock, Exit.then]
              refine c_ret (.tuple [.agg ((nums .u8 x_)).toArray, .int .i64 0].toArray) (r_ct rfl rfl (run_loadVar_aggn (by rfl) ((nums .u8 x_)) 256 (by kernel_rfl) (by simp [hx3, nums_length]) (bkCells (HS.get (.head _)) 0 _ (whole _))) rfl) ?_
              have e1 : R.readP (i : Int) = x_ := by unfold Rk.readP; rw [if_pos ht, Int.toNat_natCast, if_neg (by rw [hbad]; decide), hOd]; rw [hlw, List.take_zero]; rfl
              have e2 : R.readE (i : Int) = 0 := by unfold Rk.readE; rw [if_pos ht, Int.toNat_natCast, if_neg (by rw [hbad]; decide)]
              rw [e1, e2]
              exact ⟨rfl, ((((HS.drop.front 3 rfl).drop.front 2 rfl).front 2 rfl).front 2 rfl)⟩
          · skip
            rw [show (((m + 1 : Nat) : Int) - 1) = (m : Int) from by omega]
            have hlm : m < R.pending.length := by omega
            obtain ⟨ap, ⟨xa, xp⟩, hap, hx, hxp, hcell⟩ := wr_get (row_C (HS.get (.tail _ (.tail _ (.head _))))).2.2 m hlm
            subst hap
            dsimp only at hcell hxp
            refine c_region (fun ops45 hops44 => ?_)
            clear hops44
            refine p_run (l' := _) _ (x_move (.int .i64 (m : Int)) rfl rfl) rfl ?_
            refine p_run (l' := _) _ (x_cmp (k := .i64) (m := (m : Int)) (n := 0) .geq true rfl rfl rfl (show decide ((m : Int) ≥ 0) = true from decide_eq_true (by omega)) rfl) rfl ?_
            refine wpList_nil ?_
            refine fr_at (l' := [.agg ([.slice As R.stable.length cs, .slice (some ab) R.bad.length cb, .slice (some ap) R.pending.length cp, .bool R.counted, .int .i64 R.left, .bool R.down] : List Value).toArray, .int .i64 (i : Int), .pointer (some ⟨g5, 0, none⟩), undef, .pointer (some ⟨g8, 0, none⟩), u5, .int .i64 (m : Int), .agg ([.slice As R.stable.length cs, .slice (some ab) R.bad.length cb, .slice (some ap) R.pending.length cp, .bool R.counted, .int .i64 R.left, .bool R.down] : List Value).toArray, .int .i64 (i : Int), .bool true, .bool false, undef, .pointer (some ⟨g5, 1, none⟩), .slice (some ab) R.bad.length cb, .int .i64 (i : Int), .pointer (some ((ab).add (i * 1))), .bool false, undef, .pointer (some ⟨g5, 2, none⟩), .slice (some ap) R.pending.length cp, .int .i64 (R.pending.length : Int), .int .i64 ((R.pending.length : Int) - 1), .int .i64 (m : Int), .bool true, u24, u25, u26, u27, u28, u29, u30, u31, u32, u33, u34, u35, u36, u37, u38, u39, undef, undef, undef, undef, undef]) rfl ?_
            refine hK36 _ _ ?_
            refine c_true rfl ?_
            refine wp_skip ?_
            refine hK34 _ _ ?_
            refine wp_seq_k (fun K46 hK47 => ?_)
            refine wp_block ?_
            refine wp_seq_k (fun K48 hK49 => ?_)
            by_cases hxi : xa = (i : Int)
            · skip
              refine c_region (fun ops51 hops50 => ?_)
              clear hops50
              refine p_run (l' := _) _ (x_field (j := 2) _ _ rfl rfl Try.underlying51 rfl (by rfl) rfl) rfl ?_
              refine p_run (l' := _) _ (x_load (.slice (some ap) R.pending.length cp) rfl rfl (bkCell (HS.get (.tail _ (.tail _ (.tail _ (.tail _ (.head _)))))) 2 _ rfl) (by rfl)) rfl ?_
              refine p_run (l' := _) _ (x_move (.int .i64 (m : Int)) rfl rfl) rfl ?_
              refine p_run (l' := [.agg ([.slice As R.stable.length cs, .slice (some ab) R.bad.length cb, .slice (some ap) R.pending.length cp, .bool R.counted, .int .i64 R.left, .bool R.down] : List Value).toArray, .int .i64 (i : Int), .pointer (some ⟨g5, 0, none⟩), undef, .pointer (some ⟨g8, 0, none⟩), u5, .int .i64 (m : Int), .agg ([.slice As R.stable.length cs, .slice (some ab) R.bad.length cb, .slice (some ap) R.pending.length cp, .bool R.counted, .int .i64 R.left, .bool R.down] : List Value).toArray, .int .i64 (i : Int), .bool true, .bool false, undef, .pointer (some ⟨g5, 1, none⟩), .slice (some ab) R.bad.length cb, .int .i64 (i : Int), .pointer (some ((ab).add (i * 1))), .bool false, undef, .pointer (some ⟨g5, 2, none⟩), .slice (some ap) R.pending.length cp, .int .i64 (R.pending.length : Int), .int .i64 ((R.pending.length : Int) - 1), .int .i64 (m : Int), .bool true, u24, u25, .pointer (some ⟨g5, 2, none⟩), .slice (some ap) R.pending.length cp, .int .i64 (m : Int), .pointer (some ((ap).add (m * 257))), u30, u31, u32, u33, u34, u35, u36, u37, u38, u39, undef, undef, undef, undef, undef]) _ (x_index (A := ap) (j := m * 257) (sz := 257) rfl rfl rfl Try.underlying49 (by kernel_rfl) (by omega) rfl) rfl ?_
              refine p_run (l' := _) _ (x_fieldA _ _ rfl rfl Try.underlying74 rfl (by rfl)) rfl ?_
              refine p_run (l' := _) _ (x_load (.int .i64 xa) rfl rfl (hcell 0 _ rfl) (by rfl)) rfl ?_
              refine p_run (l' := _) _ (x_move (.int .i64 (i : Int)) rfl rfl) rfl ?_
              refine p_run (l' := [.agg ([.slice As R.stable.length cs, .slice (some ab) R.bad.length cb, .slice (some ap) R.pending.length cp, .bool R.counted, .int .i64 R.left, .bool R.down] : List Value).toArray, .int .i64 (i : Int), .pointer (some ⟨g5, 0, none⟩), undef, .pointer (some ⟨g8, 0, none⟩), u5, .int .i64 (m : Int), .agg ([.slice As R.stable.length cs, .slice (some ab) R.bad.length cb, .slice (some ap) R.pending.length cp, .bool R.counted, .int .i64 R.left, .bool R.down] : List Value).toArray, .int .i64 (i : Int), .bool true, .bool false, undef, .pointer (some ⟨g5, 1, none⟩), .slice (some ab) R.bad.length cb, .int .i64 (i : Int), .pointer (some ((ab).add (i * 1))), .bool false, undef, .pointer (some ⟨g5, 2, none⟩), .slice (some ap) R.pending.length cp, .int .i64 (R.pending.length : Int), .int .i64 ((R.pending.length : Int) - 1), .int .i64 (m : Int), .bool true, u24, u25, .pointer (some ⟨g5, 2, none⟩), .slice (some ap) R.pending.length cp, .int .i64 (m : Int), .pointer (some ((ap).add (m * 257))), .pointer (some (((ap).add (m * 257)).add 0)), .int .i64 xa, .int .i64 (i : Int), .bool true, u34, u35, u36, u37, u38, u39, undef, undef, undef, undef, undef]) _ (x_cmp (k := .i64) (m := xa) (n := (i : Int)) .eql true rfl rfl rfl (by unfold cmpB; rw [hxi]; simp) rfl) rfl ?_
              refine wpList_nil ?_
              refine hK49 _ _ ?_
              refine c_true rfl ?_
              refine wp_seq_k (fun K52 hK53 => ?_)
              refine c_region (fun ops55 hops54 => ?_)
              clear hops54
              refine p_run (l' := _) _ (x_field (j := 2) _ _ rfl rfl Try.underlying51 rfl (by rfl) rfl) rfl ?_
              refine p_run (l' := _) _ (x_load (.slice (some ap) R.pending.length cp) rfl rfl (bkCell (HS.get (.tail _ (.tail _ (.tail _ (.tail _ (.head _)))))) 2 _ rfl) (by rfl)) rfl ?_
              refine p_run (l' := _) _ (x_move (.int .i64 (m : Int)) rfl rfl) rfl ?_
              refine p_run (l' := [.agg ([.slice As R.stable.length cs, .slice (some ab) R.bad.length cb, .slice (some ap) R.pending.length cp, .bool R.counted, .int .i64 R.left, .bool R.down] : List Value).toArray, .int .i64 (i : Int), .pointer (some ⟨g5, 0, none⟩), undef, .pointer (some ⟨g8, 0, none⟩), u5, .int .i64 (m : Int), .agg ([.slice As R.stable.length cs, .slice (some ab) R.bad.length cb, .slice (some ap) R.pending.length cp, .bool R.counted, .int .i64 R.left, .bool R.down] : List Value).toArray, .int .i64 (i : Int), .bool true, .bool false, undef, .pointer (some ⟨g5, 1, none⟩), .slice (some ab) R.bad.length cb, .int .i64 (i : Int), .pointer (some ((ab).add (i * 1))), .bool false, undef, .pointer (some ⟨g5, 2, none⟩), .slice (some ap) R.pending.length cp, .int .i64 (R.pending.length : Int), .int .i64 ((R.pending.length : Int) - 1), .int .i64 (m : Int), .bool true, u24, u25, .pointer (some ⟨g5, 2, none⟩), .slice (some ap) R.pending.length cp, .int .i64 (m : Int), .pointer (some ((ap).add (m * 257))), .pointer (some (((ap).add (m * 257)).add 0)), .int .i64 xa, .int .i64 (i : Int), .bool true, .pointer (some ⟨g5, 2, none⟩), .slice (some ap) R.pending.length cp, .int .i64 (m : Int), .pointer (some ((ap).add (m * 257))), u38, u39, undef, undef, undef, undef, undef]) _ (x_index (A := ap) (j := m * 257) (sz := 257) rfl rfl rfl Try.underlying49 (by kernel_rfl) (by omega) rfl) rfl ?_
              refine p_run (l' := _) _ (x_fieldA _ _ rfl rfl Try.underlying74 rfl (by rfl)) rfl ?_
              refine p_run (l' := _) _ (x_loads ((nums .u8 xp)) 256 rfl rfl (cell_page hcell) (by rfl) (by kernel_rfl) (by simp [hxp, nums_length])) rfl ?_
              refine St.stores (cs' := ((nums .u8 xp))) (HS.front 3 rfl) ((nums .u8 xp)) 256 rfl rfl (nums_one _ _) (by kernel_rfl) (by simp [hxp, nums_length]) (by simp [hxp, nums_length, zlen]) (lay_all _ _ (by simp [hxp, nums_length, zlen])) ?_
              clear HS
              intro w56 HS
              refine p_run (l' := _) _ (x_assign (.int .i64 0) rfl rfl) rfl ?_
              refine wpList_nil ?_
              refine fr_at (l' := [.agg ([.slice As R.stable.length cs, .slice (some ab) R.bad.length cb, .slice (some ap) R.pending.length cp, .bool R.counted, .int .i64 R.left, .bool R.down] : List Value).toArray, .int .i64 (i : Int), .pointer (some ⟨g5, 0, none⟩), undef, .pointer (some ⟨g8, 0, none⟩), .int .i64 0, .int .i64 (m : Int), .agg ([.slice As R.stable.length cs, .slice (some ab) R.bad.length cb, .slice (some ap) R.pending.length cp, .bool R.counted, .int .i64 R.left, .bool R.down] : List Value).toArray, .int .i64 (i : Int), .bool true, .bool false, undef, .pointer (some ⟨g5, 1, none⟩), .slice (some ab) R.bad.length cb, .int .i64 (i : Int), .pointer (some ((ab).add (i * 1))), .bool false, undef, .pointer (some ⟨g5, 2, none⟩), .slice (some ap) R.pending.length cp, .int .i64 (R.pending.length : Int), .int .i64 ((R.pending.length : Int) - 1), .int .i64 (m : Int), .bool true, u24, u25, .pointer (some ⟨g5, 2, none⟩), .slice (some ap) R.pending.length cp, .int .i64 (m : Int), .pointer (some ((ap).add (m * 257))), .pointer (some (((ap).add (m * 257)).add 0)), .int .i64 xa, .int .i64 (i : Int), .bool true, .pointer (some ⟨g5, 2, none⟩), .slice (some ap) R.pending.length cp, .int .i64 (m : Int), .pointer (some ((ap).add (m * 257))), .pointer (some (((ap).add (m * 257)).add 1)), .agg ((nums .u8 xp)).toArray, undef, undef, undef, undef, undef]) rfl ?_
              refine hK53 _ _ ?_
              refine wp_ret ?_
              try simp only [Exit.inBlock, Exit.then]
              refine c_ret (.tuple [.agg ((nums .u8 xp)).toArray, .int .i64 0].toArray) (r_ct rfl rfl (run_loadVar_aggn (by rfl) ((nums .u8 xp)) 256 (by kernel_rfl) (by simp [hxp, nums_length]) (bkCells (HS.get (.head _)) 0 _ (whole _))) rfl) ?_
              have e1 : R.readP (i : Int) = xp := by unfold Rk.readP; rw [if_pos ht, Int.toNat_natCast, if_neg (by rw [hbad]; decide), hOd]; rw [hlw, lw_take hx, if_pos hxi]
              have e2 : R.readE (i : Int) = 0 := by unfold Rk.readE; rw [if_pos ht, Int.toNat_natCast, if_neg (by rw [hbad]; decide)]
              rw [e1, e2]
              exact ⟨rfl, ((((HS.drop.front 3 rfl).drop.front 2 rfl).front 2 rfl).front 2 rfl)⟩
            · skip
              refine c_region (fun ops58 hops57 => ?_)
              clear hops57
              refine p_run (l' := _) _ (x_field (j := 2) _ _ rfl rfl Try.underlying51 rfl (by rfl) rfl) rfl ?_
              refine p_run (l' := _) _ (x_load (.slice (some ap) R.pending.length cp) rfl rfl (bkCell (HS.get (.tail _ (.tail _ (.tail _ (.tail _ (.head _)))))) 2 _ rfl) (by rfl)) rfl ?_
              refine p_run (l' := _) _ (x_move (.int .i64 (m : Int)) rfl rfl) rfl ?_
              refine p_run (l' := [.agg ([.slice As R.stable.length cs, .slice (some ab) R.bad.length cb, .slice (some ap) R.pending.length cp, .bool R.counted, .int .i64 R.left, .bool R.down] : List Value).toArray, .int .i64 (i : Int), .pointer (some ⟨g5, 0, none⟩), undef, .pointer (some ⟨g8, 0, none⟩), u5, .int .i64 (m : Int), .agg ([.slice As R.stable.length cs, .slice (some ab) R.bad.length cb, .slice (some ap) R.pending.length cp, .bool R.counted, .int .i64 R.left, .bool R.down] : List Value).toArray, .int .i64 (i : Int), .bool true, .bool false, undef, .pointer (some ⟨g5, 1, none⟩), .slice (some ab) R.bad.length cb, .int .i64 (i : Int), .pointer (some ((ab).add (i * 1))), .bool false, undef, .pointer (some ⟨g5, 2, none⟩), .slice (some ap) R.pending.length cp, .int .i64 (R.pending.length : Int), .int .i64 ((R.pending.length : Int) - 1), .int .i64 (m : Int), .bool true, u24, u25, .pointer (some ⟨g5, 2, none⟩), .slice (some ap) R.pending.length cp, .int .i64 (m : Int), .pointer (some ((ap).add (m * 257))), u30, u31, u32, u33, u34, u35, u36, u37, u38, u39, undef, undef, undef, undef, undef]) _ (x_index (A := ap) (j := m * 257) (sz := 257) rfl rfl rfl Try.underlying49 (by kernel_rfl) (by omega) rfl) rfl ?_
              refine p_run (l' := _) _ (x_fieldA _ _ rfl rfl Try.underlying74 rfl (by rfl)) rfl ?_
              refine p_run (l' := _) _ (x_load (.int .i64 xa) rfl rfl (hcell 0 _ rfl) (by rfl)) rfl ?_
              refine p_run (l' := _) _ (x_move (.int .i64 (i : Int)) rfl rfl) rfl ?_
              refine p_run (l' := [.agg ([.slice As R.stable.length cs, .slice (some ab) R.bad.length cb, .slice (some ap) R.pending.length cp, .bool R.counted, .int .i64 R.left, .bool R.down] : List Value).toArray, .int .i64 (i : Int), .pointer (some ⟨g5, 0, none⟩), undef, .pointer (some ⟨g8, 0, none⟩), u5, .int .i64 (m : Int), .agg ([.slice As R.stable.length cs, .slice (some ab) R.bad.length cb, .slice (some ap) R.pending.length cp, .bool R.counted, .int .i64 R.left, .bool R.down] : List Value).toArray, .int .i64 (i : Int), .bool true, .bool false, undef, .pointer (some ⟨g5, 1, none⟩), .slice (some ab) R.bad.length cb, .int .i64 (i : Int), .pointer (some ((ab).add (i * 1))), .bool false, undef, .pointer (some ⟨g5, 2, none⟩), .slice (some ap) R.pending.length cp, .int .i64 (R.pending.length : Int), .int .i64 ((R.pending.length : Int) - 1), .int .i64 (m : Int), .bool true, u24, u25, .pointer (some ⟨g5, 2, none⟩), .slice (some ap) R.pending.length cp, .int .i64 (m : Int), .pointer (some ((ap).add (m * 257))), .pointer (some (((ap).add (m * 257)).add 0)), .int .i64 xa, .int .i64 (i : Int), .bool false, u34, u35, u36, u37, u38, u39, undef, undef, undef, undef, undef]) _ (x_cmp (k := .i64) (m := xa) (n := (i : Int)) .eql false rfl rfl rfl (by unfold cmpB; simpa using hxi) rfl) rfl ?_
              refine wpList_nil ?_
              refine hK49 _ _ ?_
              refine c_false rfl ?_
              refine wp_skip ?_
              refine hK47 _ _ ?_
              refine c_region (fun ops60 hops59 => ?_)
              clear hops59
              refine p_run (l' := _) _ (x_move (.int .i64 (m : Int)) rfl rfl) rfl ?_
              refine p_run (l' := _) _ (x_arith (k := .i64) (m := (m : Int)) (n := 1) .sub (((m : Int) - 1)) rfl rfl rfl (show IntKind.i64.wrap ((m : Int) - 1) = ((m : Int) - 1) from ((wr64 (by omega)).trans rfl)) rfl) rfl ?_
              refine p_run (l' := _) _ (x_assign (.int .i64 ((m : Int) - 1)) rfl rfl) rfl ?_
              refine wpList_nil ?_
              refine fr_at (l' := [.agg ([.slice As R.stable.length cs, .slice (some ab) R.bad.length cb, .slice (some ap) R.pending.length cp, .bool R.counted, .int .i64 R.left, .bool R.down] : List Value).toArray, .int .i64 (i : Int), .pointer (some ⟨g5, 0, none⟩), undef, .pointer (some ⟨g8, 0, none⟩), u5, .int .i64 ((m : Int) - 1), .agg ([.slice As R.stable.length cs, .slice (some ab) R.bad.length cb, .slice (some ap) R.pending.length cp, .bool R.counted, .int .i64 R.left, .bool R.down] : List Value).toArray, .int .i64 (i : Int), .bool true, .bool false, undef, .pointer (some ⟨g5, 1, none⟩), .slice (some ab) R.bad.length cb, .int .i64 (i : Int), .pointer (some ((ab).add (i * 1))), .bool false, undef, .pointer (some ⟨g5, 2, none⟩), .slice (some ap) R.pending.length cp, .int .i64 (R.pending.length : Int), .int .i64 ((R.pending.length : Int) - 1), .int .i64 (m : Int), .bool true, .int .i64 (m : Int), .int .i64 ((m : Int) - 1), .pointer (some ⟨g5, 2, none⟩), .slice (some ap) R.pending.length cp, .int .i64 (m : Int), .pointer (some ((ap).add (m * 257))), .pointer (some (((ap).add (m * 257)).add 0)), .int .i64 xa, .int .i64 (i : Int), .bool false, u34, u35, u36, u37, u38, u39, undef, undef, undef, undef, undef]) rfl ?_
              refine hJ31 m _ _ ?_ ?_
              · show m < m + 1; omega
              · exact ⟨_, _, _, _, _, _, _, _, _, _, _, _, _, _, _, _, _, _, _, rfl, (((((HS.front 4 rfl).front 4 rfl).front 4 rfl).front 4 rfl).front 4 rfl), ⟨by rw [hlw, lw_take hx, if_neg hxi], by omega⟩⟩
    · skip
      refine c_enter Try.func28 rfl 45 rfl [.agg ([vs, .slice Ab R.bad.length cb, vp, .bool R.counted, .int .i64 R.left, .bool R.down] : List Value).toArray, .int .i64 (i : Int), undef, undef, undef, undef, undef, undef, undef, undef, undef, undef, undef, undef, undef, undef, undef, undef, undef, undef, undef, undef, undef, undef, undef, undef, undef, undef, undef, undef, undef, undef, undef, undef, undef, undef, undef, undef, undef, undef, undef, undef, undef, undef, undef] rfl ?_
      refine wp_seq_k (fun K1 hK2 => ?_)
      refine c_region (fun ops4 hops3 => ?_)
      clear hops3
      refine St.wBox HS (cs := [vs, .slice Ab R.bad.length cb, vp, .bool R.counted, .int .i64 R.left, .bool R.down]) (.agg ([vs, .slice Ab R.bad.length cb, vp, .bool R.counted, .int .i64 R.left, .bool R.down] : List Value).toArray) rfl rfl ?_
      clear HS
      intro g5 w6 hg7 HS
      refine St.wAlloc HS (cs := ((nums .u8 zpg))) (.agg ((nums .u8 zpg)).toArray) (by kernel_rfl) rfl ?_
      clear HS
      intro g8 w9 hg10 HS
      refine p_run (l' := _) _ (x_assign (.int .i64 0) rfl rfl) rfl ?_
      refine wpList_nil ?_
      refine fr_at (l' := [.agg ([vs, .slice Ab R.bad.length cb, vp, .bool R.counted, .int .i64 R.left, .bool R.down] : List Value).toArray, .int .i64 (i : Int), .pointer (some ⟨g5, 0, none⟩), undef, .pointer (some ⟨g8, 0, none⟩), .int .i64 0, undef, undef, undef, undef, undef, undef, undef, undef, undef, undef, undef, undef, undef, undef, undef, undef, undef, undef, undef, undef, undef, undef, undef, undef, undef, undef, undef, undef, undef, undef, undef, undef, undef, undef, undef, undef, undef, undef, undef]) rfl ?_
      refine hK2 _ _ ?_
      refine wp_seq_k (fun K11 hK12 => ?_)
      refine wp_seq_k (fun K13 hK14 => ?_)
      refine c_region (fun ops16 hops15 => ?_)
      clear hops15
      refine p_run (l' := _) _ (x_loads [vs, .slice Ab R.bad.length cb, vp, .bool R.counted, .int .i64 R.left, .bool R.down] 6 rfl rfl (bkCells (HS.get (.tail _ (.head _))) 0 _ rfl) (by rfl) (by kernel_rfl) rfl) rfl ?_
      refine p_run (l' := _) _ (x_move (.int .i64 (i : Int)) rfl rfl) rfl ?_
      refine w_call [.agg ([vs, .slice Ab R.bad.length cb, vp, .bool R.counted, .int .i64 R.left, .bool R.down] : List Value).toArray, .int .i64 (i : Int)] Try.func35 (by kernel_rfl) (by rfl) rfl ?_
      replace HS := (((HS.front 4 rfl).front 4 rfl).front 4 rfl)
      refine (rkThere_any HS _).mono ?_
      clear HS
      rintro e w17 ⟨he_, HS⟩
      rw [ht] at he_
      subst he_
      refine ⟨_, rfl, ?_⟩
      refine p_run (l' := [.agg ([vs, .slice Ab R.bad.length cb, vp, .bool R.counted, .int .i64 R.left, .bool R.down] : List Value).toArray, .int .i64 (i : Int), .pointer (some ⟨g5, 0, none⟩), undef, .pointer (some ⟨g8, 0, none⟩), .int .i64 0, undef, .agg ([vs, .slice Ab R.bad.length cb, vp, .bool R.counted, .int .i64 R.left, .bool R.down] : List Value).toArray, .int .i64 (i : Int), .bool true, .bool false, undef, undef, undef, undef, undef, undef, undef, undef, undef, undef, undef, undef, undef, undef, undef, undef, undef, undef, undef, undef, undef, undef, undef, undef, undef, undef, undef, undef, undef, undef, undef, undef, undef, undef]) _ (x_not true rfl rfl) rfl ?_
      refine wpList_nil ?_
      refine hK14 _ _ ?_
      refine c_false rfl ?_
      refine wp_skip ?_
      refine hK12 _ _ ?_
      refine wp_seq_k (fun K18 hK19 => ?_)
      refine wp_seq_k (fun K20 hK21 => ?_)
      skip
      · skip
        obtain ⟨ab, hab, -⟩ := bo_get (row_C (HS.get (.tail _ (.head _)))).2.2 i hib
        subst hab
        refine c_region (fun ops23 hops22 => ?_)
        clear hops22
        refine p_run (l' := _) _ (x_field (j := 1) _ _ rfl rfl Try.underlying51 rfl (by rfl) rfl) rfl ?_
        refine p_run (l' := _) _ (x_load (.slice (some ab) R.bad.length cb) rfl rfl (bkCell (HS.get (.tail _ (.tail _ (.tail _ (.tail _ (.head _)))))) 1 _ rfl) (by rfl)) rfl ?_
        refine p_run (l' := _) _ (x_move (.int .i64 (i : Int)) rfl rfl) rfl ?_
        refine p_run (l' := [.agg ([vs, .slice (some ab) R.bad.length cb, vp, .bool R.counted, .int .i64 R.left, .bool R.down] : List Value).toArray, .int .i64 (i : Int), .pointer (some ⟨g5, 0, none⟩), undef, .pointer (some ⟨g8, 0, none⟩), .int .i64 0, undef, .agg ([vs, .slice (some ab) R.bad.length cb, vp, .bool R.counted, .int .i64 R.left, .bool R.down] : List Value).toArray, .int .i64 (i : Int), .bool true, .bool false, undef, .pointer (some ⟨g5, 1, none⟩), .slice (some ab) R.bad.length cb, .int .i64 (i : Int), .pointer (some ((ab).add (i * 1))), undef, undef, undef, undef, undef, undef, undef, undef, undef, undef, undef, undef, undef, undef, undef, undef, undef, undef, undef, undef, undef, undef, undef, undef, undef, undef, undef, undef, undef]) _ (x_index (A := ab) (j := i * 1) (sz := 1) rfl rfl rfl Try.underlying22 (by kernel_rfl) (by omega) rfl) rfl ?_
        refine p_run (l' := _) _ (x_load (.bool true) rfl rfl (by obtain ⟨a_, ha_, hc_⟩ := bo_get (row_C (HS.get (.tail _ (.head _)))).2.2 i hib; obtain rfl := Option.some.inj ha_; rw [hbad] at hc_; exact hc_) (by rfl)) rfl ?_
        refine wpList_nil ?_
        refine fr_at (l' := [.agg ([vs, .slice (some ab) R.bad.length cb, vp, .bool R.counted, .int .i64 R.left, .bool R.down] : List Value).toArray, .int .i64 (i : Int), .pointer (some ⟨g5, 0, none⟩), undef, .pointer (some ⟨g8, 0, none⟩), .int .i64 0, undef, .agg ([vs, .slice (some ab) R.bad.length cb, vp, .bool R.counted, .int .i64 R.left, .bool R.down] : List Value).toArray, .int .i64 (i : Int), .bool true, .bool false, undef, .pointer (some ⟨g5, 1, none⟩), .slice (some ab) R.bad.length cb, .int .i64 (i : Int), .pointer (some ((ab).add (i * 1))), .bool true, undef, undef, undef, undef, undef, undef, undef, undef, undef, undef, undef, undef, undef, undef, undef, undef, undef, undef, undef, undef, undef, undef, undef, undef, undef, undef, undef, undef]) rfl ?_
        refine hK21 _ _ ?_
        refine c_true rfl ?_
        refine wp_seq_k (fun K24 hK25 => ?_)
        refine c_region (fun ops27 hops26 => ?_)
        clear hops26
        refine p_run (l' := _) _ (x_build ((nums .u8 zpg)) rfl (by kernel_rfl)) rfl ?_
        refine St.stores (cs' := ((nums .u8 zpg))) (HS.front 3 rfl) ((nums .u8 zpg)) 256 rfl rfl (nums_one _ _) (by kernel_rfl) (by simp [nums_length, zlen]) (by simp [nums_length, zlen]) (lay_all _ _ (by simp [nums_length, zlen])) ?_
        clear HS
        intro w28 HS
        refine p_run (l' := _) _ (x_assign (.int .i64 43) rfl rfl) rfl ?_
        refine wpList_nil ?_
        refine fr_at (l' := [.agg ([vs, .slice (some ab) R.bad.length cb, vp, .bool R.counted, .int .i64 R.left, .bool R.down] : List Value).toArray, .int .i64 (i : Int), .pointer (some ⟨g5, 0, none⟩), undef, .pointer (some ⟨g8, 0, none⟩), .int .i64 43, undef, .agg ([vs, .slice (some ab) R.bad.length cb, vp, .bool R.counted, .int .i64 R.left, .bool R.down] : List Value).toArray, .int .i64 (i : Int), .bool true, .bool false, undef, .pointer (some ⟨g5, 1, none⟩), .slice (some ab) R.bad.length cb, .int .i64 (i : Int), .pointer (some ((ab).add (i * 1))), .bool true, .agg ((nums .u8 zpg)).toArray, undef, undef, undef, undef, undef, undef, undef, undef, undef, undef, undef, undef, undef, undef, undef, undef, undef, undef, undef, undef, undef, undef, undef, undef, undef, undef, undef]) rfl ?_
        refine hK25 _ _ ?_
        refine wp_ret ?_
        try simp only [Exit.inBlock, Exit.then]
        refine c_ret (.tuple [.agg ((nums .u8 zpg)).toArray, .int .i64 43].toArray) (r_ct rfl rfl (run_loadVar_aggn (by rfl) ((nums .u8 zpg)) 256 (by kernel_rfl) (by simp [nums_length, zlen]) (bkCells (HS.get (.head _)) 0 _ (whole _))) rfl) ?_
        have e1 : R.readP (i : Int) = zpg := by unfold Rk.readP; rw [if_pos ht, Int.toNat_natCast, if_pos hbad]
        have e2 : R.readE (i : Int) = 43 := by unfold Rk.readE; rw [if_pos ht, Int.toNat_natCast, if_pos hbad]
        rw [e1, e2]
        exact ⟨rfl, ((((HS.drop.front 3 rfl).drop.front 2 rfl).front 2 rfl).front 2 rfl)⟩
end
end Go.Proofs.Ytjholgfaipfmbaa
