/- Package net: take, Send, To, Peek, Take, Twice, Turn, Clear. -/
import Derived.Test.YtckfcnclekjjdaaNt1
set_option linter.unusedVariables false
set_option linter.unusedSimpArgs false
namespace Go.Proofs.Ytckfcnclekjjdaa
open Go.RowKit Go.Proofs.YtckfcnclekjjdaaW.PrintWords Go.Proofs.YtckfcnclekjjdaaW.PrintLast Crc
section
variable {w0 W : World} {F : Nat → Prop} {L : List Res} {G : Nat} {v : Value} {fs : List Fr_}
section
variable {e n c : Nat} {ps : List (Int × Value)} {p : Int × Value} {i : Nat} {w : World} {A : Option Addr} {ad : Addr} {xs : List UInt8} {hE : kPk.E = []} {f : Fr_}
theorem pk_cell (h : (row kPk hE e (.slice (some ad) n c) ps).holds w) (hf : ps[i]? = some p) : ∀ j u, ([.int .i64 p.1, p.2] : List Value)[j]? = some u → w.cell? ((ad.add (i * 2)).add j) = some u := by
  obtain ⟨hn, -, hC⟩ := row_C h
  have hi := (List.getElem?_eq_some_iff.1 hf).1
  obtain ⟨ad', ha, hc⟩ := hC.2.2 (by omega)
  obtain rfl := Option.some.inj ha
  obtain ⟨cs, hs, hr, hcell⟩ := hc i p hf
  intro j u hu
  rw [add_add]
  exact hcell j u (by rw [hr.1]; exact hu)
theorem pk_c0 (h : (row kPk hE e (.slice (some ad) n c) ps).holds w) (hf : ps[i]? = some p) : w.cell? ((ad.add (i * 2)).add 0) = some (.int .i64 p.1) := pk_cell h hf 0 _ rfl
theorem pk_c1 (h : (row kPk hE e (.slice (some ad) n c) ps).holds w) (hf : ps[i]? = some p) : w.cell? ((ad.add (i * 2)).add 1) = some p.2 := pk_cell h hf 1 _ rfl
theorem pk_some (h : (row kPk hE e (.slice A n c) ps).holds w) (hf : ps[i]? = some p) : ∃ ad, A = some ad := by
  obtain ⟨hn, -, hC⟩ := row_C h
  have hi := (List.getElem?_eq_some_iff.1 hf).1
  obtain ⟨ad', ha, -⟩ := hC.2.2 (by omega)
  exact ⟨ad', ha⟩
theorem fr_sl {hE : kByte.E = []} {fv : Value} (h : (row kByte hE 5 fv xs).holds w) : ∃ A c, fv = .slice A xs.length c ∧ Sl w A c xs := Own.sl (row_own h)
theorem th_in (h : fs[i]? = some f) : nTh fs (i : Int) = true := decide_eq_true ⟨by omega, by have := (List.getElem?_eq_some_iff.1 h).1; omega⟩
end
theorem nClone_any {A : Option Addr} {c n : Nat} {xs : List UInt8} (HS : St w0 F W L) (hn : n = xs.length) (hr : Sl W A c xs) (hl : xs.length ≤ 140737488355328) : Calls Try.prog 40 #[.slice A n c] W fun e w' => ∃ oa nc, e = .returned (.slice oa xs.length nc) ∧ St w0 F w' (row kByte rfl 5 (.slice oa xs.length nc) xs :: L) := by
  refine (clone_n A n c xs W hn hr hl).mono ?_
  rintro e w1 ⟨v, rfl, ho, hb⟩
  obtain ⟨A1, c1, rfl, -⟩ := ho.sl
  exact ⟨A1, c1, rfl, HS.made (hE := rfl) hb ho⟩
theorem nTurnC_any {A : Option Addr} {c n : Nat} {xs : List UInt8} (HS : St w0 F W L) (p : Int) (m : UInt8) (hn : n = xs.length) (hr : Sl W A c xs) (hl : xs.length ≤ 140737488355000) : Calls Try.prog 20 #[.slice A n c, .int .i64 p, .int .u8 (bv m)] W fun e w' => ∃ v, e = .returned v ∧ St w0 F w' (row kByte rfl 5 v (turnB xs p m) :: L) := by
  refine (turn_any A n c xs p m W hn hr hl).mono ?_
  rintro e w1 ⟨v, rfl, ho, hb⟩
  exact ⟨v, rfl, HS.made (hE := rfl) hb ho⟩
/-- What is on its way behind one more. -/
def nSend (N : List (Int × List UInt8)) (tt : Int) (xs : List UInt8) : List (Int × List UInt8) := if 0 ≤ tt ∧ tt < 2 ∧ N.length < 64 then N ++ [(tt, xs)] else N
theorem toN_length (fs : List Fr_) : (toN fs).length = fs.length := List.length_map _
theorem toN_snoc (fs : List Fr_) (tt : Int) (fv : Value) (xs : List UInt8) : toN (fs ++ [(tt, fv, xs)]) = toN fs ++ [(tt, xs)] := by unfold toN; rw [List.map_append]; rfl
theorem toN_get {i : Nat} {f : Fr_} (h : fs[i]? = some f) : (toN fs)[i]? = some (f.1, f.2.2) := by unfold toN; rw [List.getElem?_map, h]; rfl
def sendF (fs : List Fr_) (tt : Int) (fv : Value) (xs : List UInt8) : List Fr_ := if 0 ≤ tt ∧ tt < 2 ∧ fs.length < 64 then fs ++ [(tt, fv, xs)] else fs
theorem toN_send (fs : List Fr_) (tt : Int) (fv : Value) (xs : List UInt8) : toN (sendF fs tt fv xs) = nSend (toN fs) tt xs := by
  unfold sendF nSend
  rw [toN_length]
  split
  · exact toN_snoc fs tt fv xs
  · rfl
theorem toN_erase (i : Nat) : toN (fs.eraseIdx i) = (toN fs).eraseIdx i := (erase_map _ _ _).symm
theorem toN_set (i : Nat) (x : Fr_) : toN (fs.set i x) = (toN fs).set i (x.1, x.2.2) := by unfold toN; rw [List.map_set]

set_option maxRecDepth 10000 in
set_option maxHeartbeats 1000000 in
theorem nTakeL_any (HS : St w0 F W (net G v fs L)) {i : Nat} {tt : Int} {fv : Value} {xs : List UInt8} (hf : fs[i]? = some (tt, fv, xs)) (hsm : fs.length ≤ 1000) : Calls Try.prog 43 #[.pointer (some ⟨G, 0, none⟩), .int .i64 (i : Int)] W fun e w' => ∃ v', e = .returned (.agg #[.int .i64 tt, fv]) ∧ St w0 F w' (row kByte rfl 5 fv xs :: net G v' (fs.eraseIdx i) L) := by
  obtain ⟨g, c, sp, hv, hb, hc1, hc2, hc3, hone⟩ := row_pk (HS.get (.tail _ (.head _))) (pk_ne hf)
  rw [pk_length] at hv hc1
  subst hv
  replace HS := (HS.front 1 rfl).alter hb (fun b h => (congrArg some (show b = g from h)).symm)
  have hi := (List.getElem?_eq_some_iff.1 hf).1
  · skip
    refine c_enter Try.func43 rfl 25 rfl [.pointer (some ⟨G, 0, none⟩), .int .i64 (i : Int), undef, undef, undef, undef, undef, undef, undef, undef, undef, undef, undef, undef, undef, undef, undef, undef, undef, undef, undef, undef, undef, undef, undef] rfl ?_
    refine wp_seq_k (fun K1 hK2 => ?_)
    refine c_region (fun ops4 hops3 => ?_)
    clear hops3
    refine St.wAlloc HS (cs := [.int .i64 0, .slice none 0 0]) (.agg [.int .i64 0, .slice none 0 0].toArray) (by kernel_rfl) rfl ?_
    clear HS
    intro g5 w6 hg7 HS
    refine wpList_nil ?_
    refine fr_at (l' := [.pointer (some ⟨G, 0, none⟩), .int .i64 (i : Int), undef, undef, .pointer (some ⟨g5, 0, none⟩), undef, undef, undef, undef, undef, undef, undef, undef, undef, undef, undef, undef, undef, undef, undef, undef, undef, undef, undef, undef]) rfl ?_
    refine hK2 _ _ ?_
    refine wp_seq_k (fun K8 hK9 => ?_)
    refine c_region (fun ops11 hops10 => ?_)
    clear hops10
    refine p_run (l' := _) _ (x_move (.pointer (some ⟨G, 0, none⟩)) rfl rfl) rfl ?_
    refine p_run (l' := _) _ (x_nil rfl rfl) rfl ?_
    refine p_run (l' := _) _ (x_field (j := 0) _ _ rfl rfl Try.underlying70 rfl (by rfl) rfl) rfl ?_
    refine p_run (l' := [.pointer (some ⟨G, 0, none⟩), .int .i64 (i : Int), undef, undef, .pointer (some ⟨g5, 0, none⟩), undef, .pointer (some ⟨G, 0, none⟩), .pointer (some ⟨G, 0, none⟩), .pointer (some ⟨G, 0, none⟩), .slice (some ⟨g, 0, none⟩) fs.length c, undef, undef, undef, undef, undef, undef, undef, undef, undef, undef, undef, undef, undef, undef, undef]) _ (x_load (.slice (some ⟨g, 0, none⟩) fs.length c) rfl rfl (bkCell (HS.get (.tail _ (.tail _ (.head _)))) 0 _ rfl) (by rfl)) rfl ?_
    refine p_run (l' := _) _ (x_move (.int .i64 (i : Int)) rfl rfl) rfl ?_
    refine p_run (l' := _) (.pointer (some ⟨g, i * 2, none⟩)) ((x_index (A := ⟨g, 0, none⟩) (j := i * 2) (sz := 2) rfl rfl rfl Try.underlying68 (by kernel_rfl) (by omega) rfl).trans (by rw [add_mk, Nat.zero_add])) rfl ?_
    refine p_run (l' := _) _ (x_loads [.int .i64 tt, fv] 2 rfl rfl (bkCells (HS.get (.tail _ (.head _))) (i * 2) _ (pk_at (pk_get hf))) (by rfl) (by kernel_rfl) rfl) rfl ?_
    refine St.wAlloc HS (cs := [.int .i64 0, .slice none 0 0]) (.agg [.int .i64 0, .slice none 0 0].toArray) (by kernel_rfl) rfl ?_
    clear HS
    intro g12 w13 hg14 HS
    refine fr_to (l' := [.pointer (some ⟨G, 0, none⟩), .int .i64 (i : Int), undef, undef, .pointer (some ⟨g5, 0, none⟩), .pointer (some ⟨g12, 0, none⟩), .pointer (some ⟨G, 0, none⟩), .pointer (some ⟨G, 0, none⟩), .pointer (some ⟨G, 0, none⟩), .slice (some ⟨g, 0, none⟩) fs.length c, .int .i64 (i : Int), .pointer (some ⟨g, i * 2, none⟩), .agg ([.int .i64 tt, fv] : List Value).toArray, undef, undef, undef, undef, undef, undef, undef, undef, undef, undef, undef, undef]) rfl ?_
    refine St.stores (cs' := [.int .i64 tt, fv]) HS [.int .i64 tt, fv] 2 rfl rfl (all1 rfl (all1 (hone _ (List.mem_of_getElem? (pk_get hf))) rfl)) (by kernel_rfl) rfl (by simp) rfl ?_
    clear HS
    intro w15 HS
    refine wpList_nil ?_
    refine hK9 _ _ ?_
    refine wp_seq_k (fun K16 hK17 => ?_)
    refine c_region (fun ops19 hops18 => ?_)
    clear hops18
    refine p_run (l' := _) _ (x_move (.pointer (some ⟨G, 0, none⟩)) rfl rfl) rfl ?_
    refine p_run (l' := _) _ (x_move (.pointer (some ⟨G, 0, none⟩)) rfl rfl) rfl ?_
    refine p_run (l' := _) _ (x_nil rfl rfl) rfl ?_
    refine p_run (l' := [.pointer (some ⟨G, 0, none⟩), .int .i64 (i : Int), undef, undef, .pointer (some ⟨g5, 0, none⟩), .pointer (some ⟨g12, 0, none⟩), .pointer (some ⟨G, 0, none⟩), .pointer (some ⟨G, 0, none⟩), .pointer (some ⟨G, 0, none⟩), .slice (some ⟨g, 0, none⟩) fs.length c, .int .i64 (i : Int), .pointer (some ⟨g, i * 2, none⟩), .agg ([.int .i64 tt, fv] : List Value).toArray, .pointer (some ⟨G, 0, none⟩), .pointer (some ⟨G, 0, none⟩), .pointer (some ⟨G, 0, none⟩), .pointer (some ⟨G, 0, none⟩), undef, undef, undef, undef, undef, undef, undef, undef]) _ (x_field (j := 0) _ _ rfl rfl Try.underlying70 rfl (by rfl) rfl) rfl ?_
    refine p_run (l' := _) _ (x_load (.slice (some ⟨g, 0, none⟩) fs.length c) rfl rfl (bkCell (HS.get (.tail _ (.tail _ (.tail _ (.head _))))) 0 _ rfl) (by rfl)) rfl ?_
    refine p_run (l' := _) _ (x_move (.int .i64 (i : Int)) rfl rfl) rfl ?_
    refine p_run (l' := _) _ (x_move (.int .i64 (i : Int)) rfl rfl) rfl ?_
    refine p_run (l' := [.pointer (some ⟨G, 0, none⟩), .int .i64 (i : Int), undef, undef, .pointer (some ⟨g5, 0, none⟩), .pointer (some ⟨g12, 0, none⟩), .pointer (some ⟨G, 0, none⟩), .pointer (some ⟨G, 0, none⟩), .pointer (some ⟨G, 0, none⟩), .slice (some ⟨g, 0, none⟩) fs.length c, .int .i64 (i : Int), .pointer (some ⟨g, i * 2, none⟩), .agg ([.int .i64 tt, fv] : List Value).toArray, .pointer (some ⟨G, 0, none⟩), .pointer (some ⟨G, 0, none⟩), .pointer (some ⟨G, 0, none⟩), .pointer (some ⟨G, 0, none⟩), .slice (some ⟨g, 0, none⟩) fs.length c, .int .i64 (i : Int), .int .i64 (i : Int), .int .i64 ((i + 1 : Nat) : Int), undef, undef, undef, undef]) _ (x_arith (k := .i64) (m := (i : Int)) (n := 1) .add (((i + 1 : Nat) : Int)) rfl rfl rfl (show IntKind.i64.wrap ((i : Int) + 1) = ((i + 1 : Nat) : Int) from ((wr64 (by omega)).trans (by omega))) rfl) rfl ?_
    refine w_call [.slice (some ⟨g, 0, none⟩) fs.length c, .int .i64 (i : Int), .int .i64 ((i + 1 : Nat) : Int)] Try.func45 (by kernel_rfl) (by rfl) rfl ?_
    replace HS := (HS.front 2 rfl)
    refine (nDel_n HS (pk_length fs).symm (by rw [pk_length]; exact hi) (by rw [pk_length]; exact hc1) hc2 hc3 hone (by rw [pk_length]; exact hsm)).mono ?_
    clear HS
    rintro e w20 ⟨rfl, HS⟩
    rw [pk_erase] at HS
    refine ⟨_, rfl, ?_⟩
    refine p_run (l' := _) _ (x_nil rfl rfl) rfl ?_
    refine p_run (l' := _) _ (x_field (j := 0) _ _ rfl rfl Try.underlying70 rfl (by rfl) rfl) rfl ?_
    refine St.store (cs' := [.slice (some ⟨g, 0, none⟩) (fs.length - 1) c]) (HS.front 3 rfl) (.slice (some ⟨g, 0, none⟩) (fs.length - 1) c) rfl rfl rfl (by kernel_rfl) (by rfl) rfl ?_
    clear HS
    intro w21 HS
    refine wpList_nil ?_
    refine fr_at (l' := [.pointer (some ⟨G, 0, none⟩), .int .i64 (i : Int), undef, undef, .pointer (some ⟨g5, 0, none⟩), .pointer (some ⟨g12, 0, none⟩), .pointer (some ⟨G, 0, none⟩), .pointer (some ⟨G, 0, none⟩), .pointer (some ⟨G, 0, none⟩), .slice (some ⟨g, 0, none⟩) fs.length c, .int .i64 (i : Int), .pointer (some ⟨g, i * 2, none⟩), .agg ([.int .i64 tt, fv] : List Value).toArray, .pointer (some ⟨G, 0, none⟩), .pointer (some ⟨G, 0, none⟩), .pointer (some ⟨G, 0, none⟩), .pointer (some ⟨G, 0, none⟩), .slice (some ⟨g, 0, none⟩) fs.length c, .int .i64 (i : Int), .int .i64 (i : Int), .int .i64 ((i + 1 : Nat) : Int), .slice (some ⟨g, 0, none⟩) (fs.length - 1) c, .pointer (some ⟨G, 0, none⟩), .pointer (some ⟨G, 0, none⟩), undef]) rfl ?_
    refine hK17 _ _ ?_
    refine wp_seq_k (fun K22 hK23 => ?_)
    refine c_region (fun ops25 hops24 => ?_)
    clear hops24
    refine p_run (l' := _) _ (x_loads [.int .i64 tt, fv] 2 rfl rfl (bkCells (HS.get (.tail _ (.tail _ (.head _)))) 0 _ rfl) (by rfl) (by kernel_rfl) rfl) rfl ?_
    refine St.stores (cs' := [.int .i64 tt, fv]) (HS.front 3 rfl) [.int .i64 tt, fv] 2 rfl rfl (all1 rfl (all1 (hone _ (List.mem_of_getElem? (pk_get hf))) rfl)) (by kernel_rfl) rfl (by simp) rfl ?_
    clear HS
    intro w26 HS
    refine wpList_nil ?_
    refine fr_at (l' := [.pointer (some ⟨G, 0, none⟩), .int .i64 (i : Int), undef, undef, .pointer (some ⟨g5, 0, none⟩), .pointer (some ⟨g12, 0, none⟩), .pointer (some ⟨G, 0, none⟩), .pointer (some ⟨G, 0, none⟩), .pointer (some ⟨G, 0, none⟩), .slice (some ⟨g, 0, none⟩) fs.length c, .int .i64 (i : Int), .pointer (some ⟨g, i * 2, none⟩), .agg ([.int .i64 tt, fv] : List Value).toArray, .pointer (some ⟨G, 0, none⟩), .pointer (some ⟨G, 0, none⟩), .pointer (some ⟨G, 0, none⟩), .pointer (some ⟨G, 0, none⟩), .slice (some ⟨g, 0, none⟩) fs.length c, .int .i64 (i : Int), .int .i64 (i : Int), .int .i64 ((i + 1 : Nat) : Int), .slice (some ⟨g, 0, none⟩) (fs.length - 1) c, .pointer (some ⟨G, 0, none⟩), .pointer (some ⟨G, 0, none⟩), .agg ([.int .i64 tt, fv] : List Value).toArray]) rfl ?_
    refine hK23 _ _ ?_
    refine wp_ret ?_
    try simp only [Exit.inBlock, Exit.then]
    refine c_ret (.agg ([.int .i64 tt, fv] : List Value).toArray) (r_c rfl rfl (run_loadVar_aggn (by rfl) [.int .i64 tt, fv] 2 (by kernel_rfl) rfl (bkCells (HS.get (.head _)) 0 _ (whole _)))) ?_
    replace HS := (HS.front 2 rfl)
    have hle : (pk (fs.eraseIdx i)).length = fs.length - 1 := by rw [pk_length, List.length_eraseIdx_of_lt hi]
    have hone' : ∀ p ∈ pk (fs.eraseIdx i), p.2.oneCell' = true := fun p hp => hone p (by rw [← pk_erase] at hp; exact List.mem_of_mem_eraseIdx hp)
    have hc3' : (pkC (pk (fs.eraseIdx i)) ++ ([Value.int .i64 0, Value.slice none 0 0] ++ sp)).length = c * 2 := by rw [← hc3, List.length_append, List.length_append, List.length_append, pkC_length, pkC_length, hle, pk_length]; simp; omega
    replace HS := HS.alter (pk_row (hE := rfl) (ps := pk (fs.eraseIdx i)) HS.hs.head (by rw [hle]; omega) hc2 hc3' hone') (fun b h => (Option.some.inj (show some g = some b from h)).symm)
    rw [hle] at HS
    replace HS := (HS.front 4 rfl)
    replace HS := HS.pull i (frs_get hf)
    rw [frs_erase] at HS
    exact ⟨_, rfl, ((((((HS.front 3 rfl).drop.front 4 rfl).drop.front 1 rfl).front 2 rfl).front 3 rfl).front 3 rfl)⟩

set_option maxRecDepth 10000 in
set_option maxHeartbeats 1000000 in
theorem nSend_any (HS : St w0 F W (net G v fs L)) (tt : Int) {B : Option Addr} {d : Nat} {xs : List UInt8} (hrd : ∀ w, St w0 F w (net G v fs L) → Sl w B d xs) (hl : xs.length ≤ 1000000) (hsm : fs.length ≤ 900) : Calls Try.prog 23 #[.pointer (some ⟨G, 0, none⟩), .int .i64 tt, .slice B xs.length d] W fun e w' => ∃ v' fv, e = .returned (.tuple #[]) ∧ St w0 F w' (net G v' (sendF fs tt fv xs) L) := by
  by_cases h00 : 0 ≤ tt
  · skip
    have h0 : decide (tt ≥ 0) = true := decide_eq_true h00
    by_cases h11 : tt < 2
    · skip
      have h1 := decide_eq_true h11
      by_cases h22 : (fs.length : Int) < 64
      · skip
        have h2 := decide_eq_true h22
        refine c_enter Try.func23 rfl 25 rfl [.pointer (some ⟨G, 0, none⟩), .int .i64 tt, .slice B xs.length d, undef, undef, undef, undef, undef, undef, undef, undef, undef, undef, undef, undef, undef, undef, undef, undef, undef, undef, undef, undef, undef, undef] rfl ?_
        refine wp_seq_k (fun K1 hK2 => ?_)
        refine c_region (fun ops4 hops3 => ?_)
        refine p_run (l' := _) _ (x_move (.int .i64 tt) rfl rfl) rfl ?_
        refine p_run (l' := _) _ (x_cmp (k := .i64) (m := tt) (n := 0) .geq true rfl rfl rfl h0 rfl) rfl ?_
        refine p_run (l' := _) _ (x_move (.bool true) rfl rfl) rfl ?_
        refine p_on rfl (by rw [hops3]; rfl) ?_
        refine p_run (l' := [.pointer (some ⟨G, 0, none⟩), .int .i64 tt, .slice B xs.length d, undef, undef, undef, .int .i64 tt, .bool true, .bool true, .int .i64 tt, undef, undef, undef, undef, undef, undef, undef, undef, undef, undef, undef, undef, undef, undef, undef]) _ (x_move (.int .i64 tt) rfl rfl) rfl ?_
        refine p_on rfl (by rw [hops3]; rfl) ?_
        refine p_run (l' := _) _ (x_cmp (k := .i64) (m := tt) (n := 2) .lss true rfl rfl rfl h1 rfl) rfl ?_
        refine p_run (l' := _) _ (x_pick true (.bool true) (.bool false) (.bool true) rfl rfl rfl rfl rfl) rfl ?_
        refine p_run (l' := _) _ (x_move (.bool true) rfl rfl) rfl ?_
        refine p_on rfl (by rw [hops3]; rfl) ?_
        refine p_run (l' := [.pointer (some ⟨G, 0, none⟩), .int .i64 tt, .slice B xs.length d, undef, undef, undef, .int .i64 tt, .bool true, .bool true, .int .i64 tt, .bool true, .bool true, .bool true, .pointer (some ⟨G, 0, none⟩), undef, undef, undef, undef, undef, undef, undef, undef, undef, undef, undef]) _ (x_move (.pointer (some ⟨G, 0, none⟩)) rfl rfl) rfl ?_
        refine p_on rfl (by rw [hops3]; rfl) ?_
        refine w_call [.pointer (some ⟨G, 0, none⟩)] Try.func25 (by kernel_rfl) (by rfl) rfl ?_
        replace HS := (((HS.front 2 rfl).front 2 rfl).front 2 rfl)
        refine (nLen_any HS).mono ?_
        rintro e w' ⟨rfl, rfl⟩
        refine ⟨_, rfl, ?_⟩
        refine p_on rfl (by rw [hops3]; rfl) ?_
        refine p_run (l' := _) _ (x_cmp (k := .i64) (m := (fs.length : Int)) (n := 64) .lss true rfl rfl rfl h2 rfl) rfl ?_
        refine p_run (l' := _) _ (x_pick true (.bool true) (.bool false) (.bool true) rfl rfl rfl rfl rfl) rfl ?_
        clear hops3
        refine wpList_nil ?_
        refine fr_at (l' := [.pointer (some ⟨G, 0, none⟩), .int .i64 tt, .slice B xs.length d, undef, undef, undef, .int .i64 tt, .bool true, .bool true, .int .i64 tt, .bool true, .bool true, .bool true, .pointer (some ⟨G, 0, none⟩), .int .i64 (fs.length : Int), .bool true, .bool true, undef, undef, undef, undef, undef, undef, undef, undef]) rfl ?_
        refine hK2 _ _ ?_
        refine c_true rfl ?_
        refine free_frame (n := 8) (T := _) [0, 1, 3, 0, 0, 16, 56, 127] [(0, 17), (1, 18), (2, 19), (3, 20), (4, 21), (5, 22), (6, 23), (7, 24)] (fun bq_ vq_ w_ => qv ((fun i_ => match i_ with | 0 => some (.pointer (some ⟨G, 0, none⟩)) | 1 => some (.pointer (some ⟨G, 0, none⟩)) | 2 => some (.pointer (some ⟨G, 0, none⟩)) | 3 => some (.int .i64 tt) | 4 => some (.slice B xs.length d) | _ => none) : Nat → Option Value) bq_ vq_ ∧ cond (bq_ 7) (∃ (oa7 : Option Addr) (nc8 : Nat) (v10 : Value), vq_ 5 = .slice oa7 xs.length nc8 ∧ vq_ 6 = .agg ([.int .i64 tt, .slice oa7 xs.length nc8] : List Value).toArray ∧ vq_ 7 = .tuple [].toArray ∧ St w0 F w_ (blk G [v10] 72 :: row kPk rfl 75 v10 (pk (fs ++ [(tt, .slice oa7 xs.length nc8, xs)])) :: allR (frs (fs ++ [(tt, .slice oa7 xs.length nc8, xs)])) :: L)) (cond (bq_ 6) (∃ (oa7 : Option Addr) (nc8 : Nat), vq_ 5 = .slice oa7 xs.length nc8 ∧ vq_ 6 = .agg ([.int .i64 tt, .slice oa7 xs.length nc8] : List Value).toArray ∧ St w0 F w_ (row kByte rfl 5 (.slice oa7 xs.length nc8) xs :: blk G [v] 72 :: row kPk rfl 75 v (pk fs) :: allR (frs fs) :: L)) (cond (bq_ 5) (∃ (oa7 : Option Addr) (nc8 : Nat), vq_ 5 = .slice oa7 xs.length nc8 ∧ St w0 F w_ (row kByte rfl 5 (.slice oa7 xs.length nc8) xs :: blk G [v] 72 :: row kPk rfl 75 v (pk fs) :: allR (frs fs) :: L)) ((St w0 F w_ (blk G [v] 72 :: row kPk rfl 75 v (pk fs) :: allR (frs fs) :: L)))))) (by kernel_rfl) rfl rfl (by kernel_rfl) (by kernel_rfl) rfl (by kernel_rfl) (by kernel_rfl) ⟨qv_none, HS.draw⟩ ?_ ?_
        · clear HS
          intro i_ hi_ bq_ vq_ a_ w_ hG hb_ hon hoff hfr hel hval
          obtain ⟨hV, hE⟩ := hG
          have hi_ := List.mem_range.1 hi_
          have hcs : i_ = 0 ∨ i_ = 1 ∨ i_ = 2 ∨ i_ = 3 ∨ i_ = 4 ∨ i_ = 5 ∨ i_ = 6 ∨ i_ = 7 := by omega
          rcases hcs with rfl | rfl | rfl | rfl | rfl | rfl | rfl | rfl
          · have h0 : a_.tmps[0]? = some (.pointer (some ⟨G, 0, none⟩)) := (hel 0 (by decide)).trans rfl
            obtain ⟨l_, rfl⟩ := hfr
            have e0 : evl l_ (.tmp 0) = .pointer (some ⟨G, 0, none⟩) := evl_of h0
            refine ⟨_, rfl, fun K_ hK_ => wp_of_list rfl ?_⟩
            intro ops_
            refine p_run (l' := _) _ (x_move (.pointer (some ⟨G, 0, none⟩)) rfl e0) rfl ?_
            refine wpList_nil ?_
            exact norm_put (hK_ (.pointer (some ⟨G, 0, none⟩)) _ ⟨qv_up hV (fun _ h => Option.some.inj h), hE⟩)
          · have h17 : a_.tmps[17]? = some (.pointer (some ⟨G, 0, none⟩)) := (hval (0, 17) (by decide) (hon 0 (by decide))).trans (congrArg some (hV 0 _ rfl (hon 0 (by decide))))
            obtain ⟨l_, rfl⟩ := hfr
            have e17 : evl l_ (.tmp 17) = .pointer (some ⟨G, 0, none⟩) := evl_of h17
            refine ⟨_, rfl, fun K_ hK_ => wp_of_list rfl ?_⟩
            intro ops_
            refine p_run (l' := _) _ (x_nil rfl e17) rfl ?_
            refine wpList_nil ?_
            exact norm_put (hK_ (.pointer (some ⟨G, 0, none⟩)) _ ⟨qv_up hV (fun _ h => Option.some.inj h), hE⟩)
          · have h18 : a_.tmps[18]? = some (.pointer (some ⟨G, 0, none⟩)) := (hval (1, 18) (by decide) (hon 1 (by decide))).trans (congrArg some (hV 1 _ rfl (hon 1 (by decide))))
            obtain ⟨l_, rfl⟩ := hfr
            have e18 : evl l_ (.tmp 18) = .pointer (some ⟨G, 0, none⟩) := evl_of h18
            refine ⟨_, rfl, fun K_ hK_ => wp_of_list rfl ?_⟩
            intro ops_
            refine p_run (l' := _) _ (x_field (j := 0) _ _ rfl e18 Try.underlying72 rfl (by rfl) rfl) rfl ?_
            refine wpList_nil ?_
            exact norm_put (hK_ (.pointer (some ⟨G, 0, none⟩)) _ ⟨qv_up hV (fun _ h => Option.some.inj h), hE⟩)
          · have h1 : a_.tmps[1]? = some (.int .i64 tt) := (hel 1 (by decide)).trans rfl
            obtain ⟨l_, rfl⟩ := hfr
            have e1 : evl l_ (.tmp 1) = .int .i64 tt := evl_of h1
            refine ⟨_, rfl, fun K_ hK_ => wp_of_list rfl ?_⟩
            intro ops_
            refine p_run (l' := _) _ (x_move (.int .i64 tt) rfl e1) rfl ?_
            refine wpList_nil ?_
            exact norm_put (hK_ (.int .i64 tt) _ ⟨qv_up hV (fun _ h => Option.some.inj h), hE⟩)
          · have h2 : a_.tmps[2]? = some (.slice B xs.length d) := (hel 2 (by decide)).trans rfl
            obtain ⟨l_, rfl⟩ := hfr
            have e2 : evl l_ (.tmp 2) = .slice B xs.length d := evl_of h2
            refine ⟨_, rfl, fun K_ hK_ => wp_of_list rfl ?_⟩
            intro ops_
            refine p_run (l' := _) _ (x_move (.slice B xs.length d) rfl e2) rfl ?_
            refine wpList_nil ?_
            exact norm_put (hK_ (.slice B xs.length d) _ ⟨qv_up hV (fun _ h => Option.some.inj h), hE⟩)
          · have h21 : a_.tmps[21]? = some (.slice B xs.length d) := (hval (4, 21) (by decide) (hon 4 (by decide))).trans (congrArg some (hV 4 _ rfl (hon 4 (by decide))))
            obtain ⟨l_, rfl⟩ := hfr
            have hE0 := hE
            rw [show bq_ 7 = false from (hoff 7 (by decide))] at hE0
            rw [show bq_ 6 = false from (hoff 6 (by decide))] at hE0
            rw [show bq_ 5 = false from hb_] at hE0
            simp only [cond_true, cond_false] at hE0
            have HS := hE0
            have e21 : evl l_ (.tmp 21) = .slice B xs.length d := evl_of h21
            refine ⟨_, rfl, fun K_ hK_ => wp_of_list rfl ?_⟩
            intro ops_
            refine w_call [.slice B xs.length d] Try.func40 (by kernel_rfl) (by rfl) (by simp only [List.map_cons, List.map_nil, e21] <;> rfl) ?_
            refine (nClone_any HS rfl (hrd _ HS) (by omega)).mono ?_
            clear HS
            rintro e w900503 ⟨oa900501, nc900502, rfl, HS⟩
            refine ⟨_, rfl, ?_⟩
            refine wpList_nil ?_
            refine norm_put (hK_ (.slice oa900501 xs.length nc900502) _ ⟨qv_up hV (by intro _ h; cases h), ?_⟩)
            show cond (bq_ 7) _ _
            rw [show bq_ 7 = false from hoff 7 (by decide), cond_false]
            show cond (bq_ 6) _ _
            rw [show bq_ 6 = false from hoff 6 (by decide), cond_false]
            show cond true _ _
            rw [cond_true]
            exact ⟨oa900501, nc900502, rfl, ((((HS.front 3 rfl).front 3 rfl).front 3 rfl).front 3 rfl)⟩
          · have h20 : a_.tmps[20]? = some (.int .i64 tt) := (hval (3, 20) (by decide) (hon 3 (by decide))).trans (congrArg some (hV 3 _ rfl (hon 3 (by decide))))
            have h22 := hval (5, 22) (by decide) (hon 5 (by decide))
            obtain ⟨l_, rfl⟩ := hfr
            have hE0 := hE
            rw [show bq_ 7 = false from (hoff 7 (by decide))] at hE0
            rw [show bq_ 6 = false from hb_] at hE0
            rw [show bq_ 5 = true from (hon 5 (by decide))] at hE0
            simp only [cond_true, cond_false] at hE0
            obtain ⟨oa7, nc8, hv5, HS⟩ := hE0
            rw [hv5] at h22
            have e20 : evl l_ (.tmp 20) = .int .i64 tt := evl_of h20
            have e22 : evl l_ (.tmp 22) = .slice oa7 xs.length nc8 := evl_of h22
            refine ⟨_, rfl, fun K_ hK_ => wp_of_list rfl ?_⟩
            intro ops_
            refine p_run (l' := _) _ (x_build [.int .i64 tt, .slice oa7 xs.length nc8] rfl (by show Try.prog.built 75 (Array.map (fun x : Nat × Operand => (x.1, evl l_ x.2)) #[(0, Operand.tmp 20), (1, Operand.tmp 22)]).toList = _; rw [show (Array.map (fun x : Nat × Operand => (x.1, evl l_ x.2)) #[(0, Operand.tmp 20), (1, Operand.tmp 22)]).toList = [(0, .int .i64 tt), (1, .slice oa7 xs.length nc8)] from by simp only [List.map_toArray, List.map_cons, List.map_nil, e20, e22] <;> rfl]; kernel_rfl)) rfl ?_
            refine wpList_nil ?_
            refine norm_put (hK_ (.agg ([.int .i64 tt, .slice oa7 xs.length nc8] : List Value).toArray) _ ⟨qv_up hV (by intro _ h; cases h), ?_⟩)
            show cond (bq_ 7) _ _
            rw [show bq_ 7 = false from hoff 7 (by decide), cond_false]
            show cond true _ _
            rw [cond_true]
            exact ⟨oa7, nc8, hv5, rfl, ((((HS.front 3 rfl).front 3 rfl).front 3 rfl).front 3 rfl)⟩
          · have h19 : a_.tmps[19]? = some (.pointer (some ⟨G, 0, none⟩)) := (hval (2, 19) (by decide) (hon 2 (by decide))).trans (congrArg some (hV 2 _ rfl (hon 2 (by decide))))
            have h23 := hval (6, 23) (by decide) (hon 6 (by decide))
            obtain ⟨l_, rfl⟩ := hfr
            have hE0 := hE
            rw [show bq_ 7 = false from hb_] at hE0
            rw [show bq_ 6 = true from (hon 6 (by decide))] at hE0
            simp only [cond_true, cond_false] at hE0
            obtain ⟨oa7, nc8, hv5, hv6, HS⟩ := hE0
            rw [hv6] at h23
            have e19 : evl l_ (.tmp 19) = .pointer (some ⟨G, 0, none⟩) := evl_of h19
            have e23 : evl l_ (.tmp 23) = .agg ([.int .i64 tt, .slice oa7 xs.length nc8] : List Value).toArray := evl_of h23
            refine ⟨_, rfl, fun K_ hK_ => wp_of_list rfl ?_⟩
            intro ops_
            refine w_call [.pointer (some ⟨G, 0, none⟩), .agg ([.int .i64 tt, .slice oa7 xs.length nc8] : List Value).toArray] Try.func41 (by kernel_rfl) (by rfl) (by simp only [List.map_cons, List.map_nil, e19, e23] <;> rfl) ?_
            replace HS := ((((HS.front 3 rfl).front 3 rfl).front 3 rfl).front 3 rfl)
            refine (nPush_any HS (by omega)).mono ?_
            clear HS
            rintro e w900702 ⟨v900701, rfl, HS⟩
            refine ⟨_, rfl, ?_⟩
            refine wpList_nil ?_
            refine norm_put (hK_ (.tuple [].toArray) _ ⟨qv_up hV (by intro _ h; cases h), ?_⟩)
            show cond true _ _
            rw [cond_true]
            exact ⟨oa7, nc8, v900701, hv5, hv6, rfl, (((HS.front 2 rfl).front 2 rfl).front 2 rfl)⟩
        intro bq_ vq_ w_ hall hG
        obtain ⟨hV, hE⟩ := hG
        clear HS
        rw [show bq_ 7 = true from hall 7 (by decide)] at hE
        simp only [cond_true] at hE
        obtain ⟨oa7, nc8, v10, hv5, hv6, hv7, HS⟩ := hE
        have hv0 := hV 0 _ rfl (hall 0 (by decide))
        have hv1 := hV 1 _ rfl (hall 1 (by decide))
        have hv2 := hV 2 _ rfl (hall 2 (by decide))
        have hv3 := hV 3 _ rfl (hall 3 (by decide))
        have hv4 := hV 4 _ rfl (hall 4 (by decide))
        clear hV hall
        rw [putSel_fr]
        simp only [tells, List.map_cons, List.map_nil, setAll, List.set_cons_succ, List.set_cons_zero, hv0, hv1, hv2, hv3, hv4, hv5, hv6, hv7]
        clear hv0 hv1 hv2 hv3 hv4 hv5 hv6 hv7
        generalize w_ = w900703 at HS ⊢
        refine fr_at (l' := [.pointer (some ⟨G, 0, none⟩), .int .i64 tt, .slice B xs.length d, undef, undef, undef, .int .i64 tt, .bool true, .bool true, .int .i64 tt, .bool true, .bool true, .bool true, .pointer (some ⟨G, 0, none⟩), .int .i64 (fs.length : Int), .bool true, .bool true, .pointer (some ⟨G, 0, none⟩), .pointer (some ⟨G, 0, none⟩), .pointer (some ⟨G, 0, none⟩), .int .i64 tt, .slice B xs.length d, .slice oa7 xs.length nc8, .agg ([.int .i64 tt, .slice oa7 xs.length nc8] : List Value).toArray, .tuple [].toArray]) rfl ?_
        refine c_end (.tuple #[]) (r_none rfl) ?_
        exact ⟨_, _, rfl, by unfold sendF; rw [if_pos ⟨h00, h11, by omega⟩]; exact (((HS.front 2 rfl).front 2 rfl).front 2 rfl)⟩
      · skip
        have h2 := decide_eq_false h22
        refine c_enter Try.func23 rfl 25 rfl [.pointer (some ⟨G, 0, none⟩), .int .i64 tt, .slice B xs.length d, undef, undef, undef, undef, undef, undef, undef, undef, undef, undef, undef, undef, undef, undef, undef, undef, undef, undef, undef, undef, undef, undef] rfl ?_
        refine wp_seq_k (fun K1 hK2 => ?_)
        refine c_region (fun ops4 hops3 => ?_)
        refine p_run (l' := _) _ (x_move (.int .i64 tt) rfl rfl) rfl ?_
        refine p_run (l' := _) _ (x_cmp (k := .i64) (m := tt) (n := 0) .geq true rfl rfl rfl h0 rfl) rfl ?_
        refine p_run (l' := _) _ (x_move (.bool true) rfl rfl) rfl ?_
        refine p_on rfl (by rw [hops3]; rfl) ?_
        refine p_run (l' := [.pointer (some ⟨G, 0, none⟩), .int .i64 tt, .slice B xs.length d, undef, undef, undef, .int .i64 tt, .bool true, .bool true, .int .i64 tt, undef, undef, undef, undef, undef, undef, undef, undef, undef, undef, undef, undef, undef, undef, undef]) _ (x_move (.int .i64 tt) rfl rfl) rfl ?_
        refine p_on rfl (by rw [hops3]; rfl) ?_
        refine p_run (l' := _) _ (x_cmp (k := .i64) (m := tt) (n := 2) .lss true rfl rfl rfl h1 rfl) rfl ?_
        refine p_run (l' := _) _ (x_pick true (.bool true) (.bool false) (.bool true) rfl rfl rfl rfl rfl) rfl ?_
        refine p_run (l' := _) _ (x_move (.bool true) rfl rfl) rfl ?_
        refine p_on rfl (by rw [hops3]; rfl) ?_
        refine p_run (l' := [.pointer (some ⟨G, 0, none⟩), .int .i64 tt, .slice B xs.length d, undef, undef, undef, .int .i64 tt, .bool true, .bool true, .int .i64 tt, .bool true, .bool true, .bool true, .pointer (some ⟨G, 0, none⟩), undef, undef, undef, undef, undef, undef, undef, undef, undef, undef, undef]) _ (x_move (.pointer (some ⟨G, 0, none⟩)) rfl rfl) rfl ?_
        refine p_on rfl (by rw [hops3]; rfl) ?_
        refine w_call [.pointer (some ⟨G, 0, none⟩)] Try.func25 (by kernel_rfl) (by rfl) rfl ?_
        replace HS := (((HS.front 2 rfl).front 2 rfl).front 2 rfl)
        refine (nLen_any HS).mono ?_
        rintro e w' ⟨rfl, rfl⟩
        refine ⟨_, rfl, ?_⟩
        refine p_on rfl (by rw [hops3]; rfl) ?_
        refine p_run (l' := _) _ (x_cmp (k := .i64) (m := (fs.length : Int)) (n := 64) .lss false rfl rfl rfl h2 rfl) rfl ?_
        refine p_run (l' := _) _ (x_pick true (.bool false) (.bool false) (.bool false) rfl rfl rfl rfl rfl) rfl ?_
        clear hops3
        refine wpList_nil ?_
        refine fr_at (l' := [.pointer (some ⟨G, 0, none⟩), .int .i64 tt, .slice B xs.length d, undef, undef, undef, .int .i64 tt, .bool true, .bool true, .int .i64 tt, .bool true, .bool true, .bool true, .pointer (some ⟨G, 0, none⟩), .int .i64 (fs.length : Int), .bool false, .bool false, undef, undef, undef, undef, undef, undef, undef, undef]) rfl ?_
        refine hK2 _ _ ?_
        refine c_false rfl ?_
        refine wp_skip ?_
        refine c_end (.tuple #[]) (r_none rfl) ?_
        exact ⟨_, .bool false, rfl, by unfold sendF; rw [if_neg (fun h => by have := h.2.2; omega)]; exact (((HS.front 2 rfl).front 2 rfl).front 2 rfl)⟩
    · skip
      have h1 := decide_eq_false h11
      refine c_enter Try.func23 rfl 25 rfl [.pointer (some ⟨G, 0, none⟩), .int .i64 tt, .slice B xs.length d, undef, undef, undef, undef, undef, undef, undef, undef, undef, undef, undef, undef, undef, undef, undef, undef, undef, undef, undef, undef, undef, undef] rfl ?_
      refine wp_seq_k (fun K1 hK2 => ?_)
      refine c_region (fun ops4 hops3 => ?_)
      refine p_run (l' := _) _ (x_move (.int .i64 tt) rfl rfl) rfl ?_
      refine p_run (l' := _) _ (x_cmp (k := .i64) (m := tt) (n := 0) .geq true rfl rfl rfl h0 rfl) rfl ?_
      refine p_run (l' := _) _ (x_move (.bool true) rfl rfl) rfl ?_
      refine p_on rfl (by rw [hops3]; rfl) ?_
      refine p_run (l' := [.pointer (some ⟨G, 0, none⟩), .int .i64 tt, .slice B xs.length d, undef, undef, undef, .int .i64 tt, .bool true, .bool true, .int .i64 tt, undef, undef, undef, undef, undef, undef, undef, undef, undef, undef, undef, undef, undef, undef, undef]) _ (x_move (.int .i64 tt) rfl rfl) rfl ?_
      refine p_on rfl (by rw [hops3]; rfl) ?_
      refine p_run (l' := _) _ (x_cmp (k := .i64) (m := tt) (n := 2) .lss false rfl rfl rfl h1 rfl) rfl ?_
      refine p_run (l' := _) _ (x_pick true (.bool false) (.bool false) (.bool false) rfl rfl rfl rfl rfl) rfl ?_
      refine p_run (l' := _) _ (x_move (.bool false) rfl rfl) rfl ?_
      refine p_off (l' := [.pointer (some ⟨G, 0, none⟩), .int .i64 tt, .slice B xs.length d, undef, undef, undef, .int .i64 tt, .bool true, .bool true, .int .i64 tt, .bool false, .bool false, .bool false, undef, undef, undef, undef, undef, undef, undef, undef, undef, undef, undef, undef]) (by rw [hops3]; rfl) rfl ?_
      refine p_off (l' := _) (by rw [hops3]; rfl) rfl ?_
      refine p_off (l' := _) (by rw [hops3]; rfl) rfl ?_
      refine p_run (l' := _) _ (x_pick false (undef) (.bool false) (.bool false) rfl rfl rfl rfl rfl) rfl ?_
      clear hops3
      refine wpList_nil ?_
      refine fr_at (l' := [.pointer (some ⟨G, 0, none⟩), .int .i64 tt, .slice B xs.length d, undef, undef, undef, .int .i64 tt, .bool true, .bool true, .int .i64 tt, .bool false, .bool false, .bool false, undef, undef, undef, .bool false, undef, undef, undef, undef, undef, undef, undef, undef]) rfl ?_
      refine hK2 _ _ ?_
      refine c_false rfl ?_
      refine wp_skip ?_
      refine c_end (.tuple #[]) (r_none rfl) ?_
      exact ⟨_, .bool false, rfl, by unfold sendF; rw [if_neg (fun h => h11 h.2.1)]; exact (((HS.front 2 rfl).front 2 rfl).front 2 rfl)⟩
  · skip
    have h0 : decide (tt ≥ 0) = false := decide_eq_false h00
    refine c_enter Try.func23 rfl 25 rfl [.pointer (some ⟨G, 0, none⟩), .int .i64 tt, .slice B xs.length d, undef, undef, undef, undef, undef, undef, undef, undef, undef, undef, undef, undef, undef, undef, undef, undef, undef, undef, undef, undef, undef, undef] rfl ?_
    refine wp_seq_k (fun K1 hK2 => ?_)
    refine c_region (fun ops4 hops3 => ?_)
    refine p_run (l' := _) _ (x_move (.int .i64 tt) rfl rfl) rfl ?_
    refine p_run (l' := _) _ (x_cmp (k := .i64) (m := tt) (n := 0) .geq false rfl rfl rfl h0 rfl) rfl ?_
    refine p_run (l' := _) _ (x_move (.bool false) rfl rfl) rfl ?_
    refine p_off (l' := [.pointer (some ⟨G, 0, none⟩), .int .i64 tt, .slice B xs.length d, undef, undef, undef, .int .i64 tt, .bool false, .bool false, undef, undef, undef, undef, undef, undef, undef, undef, undef, undef, undef, undef, undef, undef, undef, undef]) (by rw [hops3]; rfl) rfl ?_
    refine p_off (l' := _) (by rw [hops3]; rfl) rfl ?_
    refine p_run (l' := _) _ (x_pick false (undef) (.bool false) (.bool false) rfl rfl rfl rfl rfl) rfl ?_
    refine p_run (l' := _) _ (x_move (.bool false) rfl rfl) rfl ?_
    refine p_off (l' := [.pointer (some ⟨G, 0, none⟩), .int .i64 tt, .slice B xs.length d, undef, undef, undef, .int .i64 tt, .bool false, .bool false, undef, undef, .bool false, .bool false, undef, undef, undef, undef, undef, undef, undef, undef, undef, undef, undef, undef]) (by rw [hops3]; rfl) rfl ?_
    refine p_off (l' := _) (by rw [hops3]; rfl) rfl ?_
    refine p_off (l' := _) (by rw [hops3]; rfl) rfl ?_
    refine p_run (l' := _) _ (x_pick false (undef) (.bool false) (.bool false) rfl rfl rfl rfl rfl) rfl ?_
    clear hops3
    refine wpList_nil ?_
    refine fr_at (l' := [.pointer (some ⟨G, 0, none⟩), .int .i64 tt, .slice B xs.length d, undef, undef, undef, .int .i64 tt, .bool false, .bool false, undef, undef, .bool false, .bool false, undef, undef, undef, .bool false, undef, undef, undef, undef, undef, undef, undef, undef]) rfl ?_
    refine hK2 _ _ ?_
    refine c_false rfl ?_
    refine wp_skip ?_
    refine c_end (.tuple #[]) (r_none rfl) ?_
    exact ⟨_, .bool false, rfl, by unfold sendF; rw [if_neg (fun h => h00 h.1)]; exact (((HS.front 2 rfl).front 2 rfl).front 2 rfl)⟩

theorem fr_sl' {w : World} {xs : List UInt8} {A : Option Addr} {n c : Nat} {tt : Int} (h : (fro (tt, .slice A n c, xs)).holds w) : Sl w A c xs := by
  obtain ⟨A', c', hv, hs⟩ := fr_sl h
  dsimp only at hv
  injection hv with h1 h2 h3
  subst h1 h3
  exact hs

set_option maxRecDepth 10000 in
theorem nTo_yes (HS : St w0 F W (net G v fs L)) {i : Nat} {tt : Int} {fv : Value} {xs : List UInt8} (hf : fs[i]? = some (tt, fv, xs)) (hsm : fs.length ≤ 1000) : Calls Try.prog 30 #[.pointer (some ⟨G, 0, none⟩), .int .i64 (i : Int)] W fun e w' => e = .returned (.int .i64 tt) ∧ w' = W := by
  obtain ⟨A, c, hv, hcap, -⟩ := row_reads (HS.get (.tail _ (.head _)))
  rw [pk_length] at hv hcap
  subst hv
  have hi := (List.getElem?_eq_some_iff.1 hf).1
  obtain ⟨ad, rfl⟩ := pk_some (HS.get (.tail _ (.head _))) (pk_get hf)
  · skip
    refine c_enter Try.func30 rfl 20 rfl [.pointer (some ⟨G, 0, none⟩), .int .i64 (i : Int), undef, undef, undef, undef, undef, undef, undef, undef, undef, undef, undef, undef, undef, undef, undef, undef, undef, undef] rfl ?_
    refine wp_seq_k (fun K1 hK2 => ?_)
    refine c_region (fun ops4 hops3 => ?_)
    clear hops3
    refine p_run (l' := _) _ (x_assign (.int .i64 0) rfl rfl) rfl ?_
    refine wpList_nil ?_
    refine fr_at (l' := [.pointer (some ⟨G, 0, none⟩), .int .i64 (i : Int), undef, undef, .int .i64 0, undef, undef, undef, undef, undef, undef, undef, undef, undef, undef, undef, undef, undef, undef, undef]) rfl ?_
    refine hK2 _ _ ?_
    refine wp_seq_k (fun K5 hK6 => ?_)
    refine wp_seq_k (fun K7 hK8 => ?_)
    refine c_region (fun ops10 hops9 => ?_)
    clear hops9
    refine p_run (l' := _) _ (x_move (.pointer (some ⟨G, 0, none⟩)) rfl rfl) rfl ?_
    refine p_run (l' := _) _ (x_nil rfl rfl) rfl ?_
    refine p_run (l' := _) _ (x_field (j := 0) _ _ rfl rfl Try.underlying72 rfl (by rfl) rfl) rfl ?_
    refine p_run (l' := [.pointer (some ⟨G, 0, none⟩), .int .i64 (i : Int), undef, undef, .int .i64 0, .pointer (some ⟨G, 0, none⟩), .pointer (some ⟨G, 0, none⟩), .pointer (some ⟨G, 0, none⟩), .int .i64 (i : Int), undef, undef, undef, undef, undef, undef, undef, undef, undef, undef, undef]) _ (x_move (.int .i64 (i : Int)) rfl rfl) rfl ?_
    refine w_call [.pointer (some ⟨G, 0, none⟩), .int .i64 (i : Int)] Try.func42 (by kernel_rfl) (by rfl) rfl ?_
    replace HS := (((HS.front 2 rfl).front 2 rfl).front 2 rfl)
    refine (nThere_any HS _).mono ?_
    rintro e w' ⟨he_, rfl⟩
    rw [th_in hf] at he_
    subst he_
    refine ⟨_, rfl, ?_⟩
    refine p_run (l' := _) _ (x_not true rfl rfl) rfl ?_
    refine wpList_nil ?_
    refine fr_at (l' := [.pointer (some ⟨G, 0, none⟩), .int .i64 (i : Int), undef, undef, .int .i64 0, .pointer (some ⟨G, 0, none⟩), .pointer (some ⟨G, 0, none⟩), .pointer (some ⟨G, 0, none⟩), .int .i64 (i : Int), .bool true, .bool false, undef, undef, undef, undef, undef, undef, undef, undef, undef]) rfl ?_
    refine hK8 _ _ ?_
    refine c_false rfl ?_
    refine wp_skip ?_
    refine hK6 _ _ ?_
    refine wp_seq_k (fun K11 hK12 => ?_)
    refine c_region (fun ops14 hops13 => ?_)
    clear hops13
    refine p_run (l' := _) _ (x_move (.pointer (some ⟨G, 0, none⟩)) rfl rfl) rfl ?_
    refine p_run (l' := _) _ (x_nil rfl rfl) rfl ?_
    refine p_run (l' := _) _ (x_field (j := 0) _ _ rfl rfl Try.underlying72 rfl (by rfl) rfl) rfl ?_
    refine p_run (l' := [.pointer (some ⟨G, 0, none⟩), .int .i64 (i : Int), undef, undef, .int .i64 0, .pointer (some ⟨G, 0, none⟩), .pointer (some ⟨G, 0, none⟩), .pointer (some ⟨G, 0, none⟩), .int .i64 (i : Int), .bool true, .bool false, .pointer (some ⟨G, 0, none⟩), .pointer (some ⟨G, 0, none⟩), .pointer (some ⟨G, 0, none⟩), .pointer (some ⟨G, 0, none⟩), undef, undef, undef, undef, undef]) _ (x_field (j := 0) _ _ rfl rfl Try.underlying70 rfl (by rfl) rfl) rfl ?_
    refine p_run (l' := _) _ (x_load (.slice (some ad) fs.length c) rfl rfl (bkCell (HS.get (.head _)) 0 _ rfl) (by rfl)) rfl ?_
    refine p_run (l' := _) _ (x_move (.int .i64 (i : Int)) rfl rfl) rfl ?_
    refine p_run (l' := _) _ (x_index (A := ad) (j := i * 2) (sz := 2) rfl rfl rfl Try.underlying68 (by kernel_rfl) (by omega) rfl) rfl ?_
    refine p_run (l' := [.pointer (some ⟨G, 0, none⟩), .int .i64 (i : Int), undef, undef, .int .i64 0, .pointer (some ⟨G, 0, none⟩), .pointer (some ⟨G, 0, none⟩), .pointer (some ⟨G, 0, none⟩), .int .i64 (i : Int), .bool true, .bool false, .pointer (some ⟨G, 0, none⟩), .pointer (some ⟨G, 0, none⟩), .pointer (some ⟨G, 0, none⟩), .pointer (some ⟨G, 0, none⟩), .slice (some ad) fs.length c, .int .i64 (i : Int), .pointer (some ((ad).add (i * 2))), .pointer (some (((ad).add (i * 2)).add 0)), undef]) _ (x_fieldA _ _ rfl rfl Try.underlying75 rfl (by rfl)) rfl ?_
    refine p_run (l' := _) _ (x_load (.int .i64 tt) rfl rfl (pk_c0 (HS.get (.tail _ (.head _))) (pk_get hf)) (by rfl)) rfl ?_
    refine p_run (l' := _) _ (x_assign (.int .i64 tt) rfl rfl) rfl ?_
    refine wpList_nil ?_
    refine fr_at (l' := [.pointer (some ⟨G, 0, none⟩), .int .i64 (i : Int), undef, undef, .int .i64 tt, .pointer (some ⟨G, 0, none⟩), .pointer (some ⟨G, 0, none⟩), .pointer (some ⟨G, 0, none⟩), .int .i64 (i : Int), .bool true, .bool false, .pointer (some ⟨G, 0, none⟩), .pointer (some ⟨G, 0, none⟩), .pointer (some ⟨G, 0, none⟩), .pointer (some ⟨G, 0, none⟩), .slice (some ad) fs.length c, .int .i64 (i : Int), .pointer (some ((ad).add (i * 2))), .pointer (some (((ad).add (i * 2)).add 0)), .int .i64 tt]) rfl ?_
    refine hK12 _ _ ?_
    refine wp_ret ?_
    try simp only [Exit.inBlock, Exit.then]
    refine c_ret (.int .i64 tt) (r_tmp rfl rfl) ?_
    exact ⟨rfl, rfl⟩

set_option maxRecDepth 10000 in
theorem nTo_no (HS : St w0 F W (net G v fs L)) (i : Int) (hno : nTh fs i = false) : Calls Try.prog 30 #[.pointer (some ⟨G, 0, none⟩), .int .i64 i] W fun e w' => e = .returned (.int .i64 (-1)) ∧ w' = W := by
  refine c_enter Try.func30 rfl 20 rfl [.pointer (some ⟨G, 0, none⟩), .int .i64 i, undef, undef, undef, undef, undef, undef, undef, undef, undef, undef, undef, undef, undef, undef, undef, undef, undef, undef] rfl ?_
  refine wp_seq_k (fun K1 hK2 => ?_)
  refine c_region (fun ops4 hops3 => ?_)
  clear hops3
  refine p_run (l' := _) _ (x_assign (.int .i64 0) rfl rfl) rfl ?_
  refine wpList_nil ?_
  refine fr_at (l' := [.pointer (some ⟨G, 0, none⟩), .int .i64 i, undef, undef, .int .i64 0, undef, undef, undef, undef, undef, undef, undef, undef, undef, undef, undef, undef, undef, undef, undef]) rfl ?_
  refine hK2 _ _ ?_
  refine wp_seq_k (fun K5 hK6 => ?_)
  refine wp_seq_k (fun K7 hK8 => ?_)
  refine c_region (fun ops10 hops9 => ?_)
  clear hops9
  refine p_run (l' := _) _ (x_move (.pointer (some ⟨G, 0, none⟩)) rfl rfl) rfl ?_
  refine p_run (l' := _) _ (x_nil rfl rfl) rfl ?_
  refine p_run (l' := _) _ (x_field (j := 0) _ _ rfl rfl Try.underlying72 rfl (by rfl) rfl) rfl ?_
  refine p_run (l' := [.pointer (some ⟨G, 0, none⟩), .int .i64 i, undef, undef, .int .i64 0, .pointer (some ⟨G, 0, none⟩), .pointer (some ⟨G, 0, none⟩), .pointer (some ⟨G, 0, none⟩), .int .i64 i, undef, undef, undef, undef, undef, undef, undef, undef, undef, undef, undef]) _ (x_move (.int .i64 i) rfl rfl) rfl ?_
  refine w_call [.pointer (some ⟨G, 0, none⟩), .int .i64 i] Try.func42 (by kernel_rfl) (by rfl) rfl ?_
  replace HS := (((HS.front 2 rfl).front 2 rfl).front 2 rfl)
  refine (nThere_any HS _).mono ?_
  rintro e w' ⟨he_, rfl⟩
  rw [hno] at he_
  subst he_
  refine ⟨_, rfl, ?_⟩
  refine p_run (l' := _) _ (x_not false rfl rfl) rfl ?_
  refine wpList_nil ?_
  refine fr_at (l' := [.pointer (some ⟨G, 0, none⟩), .int .i64 i, undef, undef, .int .i64 0, .pointer (some ⟨G, 0, none⟩), .pointer (some ⟨G, 0, none⟩), .pointer (some ⟨G, 0, none⟩), .int .i64 i, .bool false, .bool true, undef, undef, undef, undef, undef, undef, undef, undef, undef]) rfl ?_
  refine hK8 _ _ ?_
  refine c_true rfl ?_
  refine wp_seq_k (fun K11 hK12 => ?_)
  refine c_region (fun ops14 hops13 => ?_)
  clear hops13
  refine p_run (l' := _) _ (x_assign (.int .i64 (-1)) rfl rfl) rfl ?_
  refine wpList_nil ?_
  refine fr_at (l' := [.pointer (some ⟨G, 0, none⟩), .int .i64 i, undef, undef, .int .i64 (-1), .pointer (some ⟨G, 0, none⟩), .pointer (some ⟨G, 0, none⟩), .pointer (some ⟨G, 0, none⟩), .int .i64 i, .bool false, .bool true, undef, undef, undef, undef, undef, undef, undef, undef, undef]) rfl ?_
  refine hK12 _ _ ?_
  refine wp_ret ?_
  try simp only [Exit.inBlock, Exit.then]
  refine c_ret (.int .i64 (-1)) (r_tmp rfl rfl) ?_
  exact ⟨rfl, rfl⟩

set_option maxRecDepth 10000 in
theorem nPeek_yes (HS : St w0 F W (net G v fs L)) {i : Nat} {tt : Int} {fv : Value} {xs : List UInt8} (hf : fs[i]? = some (tt, fv, xs)) (hsm : fs.length ≤ 1000) (hl : xs.length ≤ 1000000) : Calls Try.prog 28 #[.pointer (some ⟨G, 0, none⟩), .int .i64 (i : Int)] W fun e w' => ∃ oa nc, e = .returned (.slice oa xs.length nc) ∧ St w0 F w' (row kByte rfl 5 (.slice oa xs.length nc) xs :: net G v fs L) := by
  obtain ⟨A, c, hv, hcap, -⟩ := row_reads (HS.get (.tail _ (.head _)))
  rw [pk_length] at hv hcap
  subst hv
  have hi := (List.getElem?_eq_some_iff.1 hf).1
  obtain ⟨ad, rfl⟩ := pk_some (HS.get (.tail _ (.head _))) (pk_get hf)
  obtain ⟨Af, cf, hfv, -⟩ := fr_sl (HS.allGet (.tail _ (.tail _ (.head _))) (frs_get hf))
  dsimp only at hfv
  subst hfv
  · skip
    refine c_enter Try.func28 rfl 21 rfl [.pointer (some ⟨G, 0, none⟩), .int .i64 (i : Int), undef, undef, undef, undef, undef, undef, undef, undef, undef, undef, undef, undef, undef, undef, undef, undef, undef, undef, undef] rfl ?_
    refine wp_seq_k (fun K1 hK2 => ?_)
    refine c_region (fun ops4 hops3 => ?_)
    clear hops3
    refine p_run (l' := _) _ (x_assign (.slice none 0 0) rfl rfl) rfl ?_
    refine wpList_nil ?_
    refine fr_at (l' := [.pointer (some ⟨G, 0, none⟩), .int .i64 (i : Int), undef, undef, .slice none 0 0, undef, undef, undef, undef, undef, undef, undef, undef, undef, undef, undef, undef, undef, undef, undef, undef]) rfl ?_
    refine hK2 _ _ ?_
    refine wp_seq_k (fun K5 hK6 => ?_)
    refine wp_seq_k (fun K7 hK8 => ?_)
    refine c_region (fun ops10 hops9 => ?_)
    clear hops9
    refine p_run (l' := _) _ (x_move (.pointer (some ⟨G, 0, none⟩)) rfl rfl) rfl ?_
    refine p_run (l' := _) _ (x_nil rfl rfl) rfl ?_
    refine p_run (l' := _) _ (x_field (j := 0) _ _ rfl rfl Try.underlying72 rfl (by rfl) rfl) rfl ?_
    refine p_run (l' := [.pointer (some ⟨G, 0, none⟩), .int .i64 (i : Int), undef, undef, .slice none 0 0, .pointer (some ⟨G, 0, none⟩), .pointer (some ⟨G, 0, none⟩), .pointer (some ⟨G, 0, none⟩), .int .i64 (i : Int), undef, undef, undef, undef, undef, undef, undef, undef, undef, undef, undef, undef]) _ (x_move (.int .i64 (i : Int)) rfl rfl) rfl ?_
    refine w_call [.pointer (some ⟨G, 0, none⟩), .int .i64 (i : Int)] Try.func42 (by kernel_rfl) (by rfl) rfl ?_
    replace HS := (((HS.front 2 rfl).front 2 rfl).front 2 rfl)
    refine (nThere_any HS _).mono ?_
    rintro e w' ⟨he_, rfl⟩
    rw [th_in hf] at he_
    subst he_
    refine ⟨_, rfl, ?_⟩
    refine p_run (l' := _) _ (x_not true rfl rfl) rfl ?_
    refine wpList_nil ?_
    refine fr_at (l' := [.pointer (some ⟨G, 0, none⟩), .int .i64 (i : Int), undef, undef, .slice none 0 0, .pointer (some ⟨G, 0, none⟩), .pointer (some ⟨G, 0, none⟩), .pointer (some ⟨G, 0, none⟩), .int .i64 (i : Int), .bool true, .bool false, undef, undef, undef, undef, undef, undef, undef, undef, undef, undef]) rfl ?_
    refine hK8 _ _ ?_
    refine c_false rfl ?_
    refine wp_skip ?_
    refine hK6 _ _ ?_
    refine wp_seq_k (fun K11 hK12 => ?_)
    refine c_region (fun ops14 hops13 => ?_)
    clear hops13
    refine p_run (l' := _) _ (x_move (.pointer (some ⟨G, 0, none⟩)) rfl rfl) rfl ?_
    refine p_run (l' := _) _ (x_nil rfl rfl) rfl ?_
    refine p_run (l' := _) _ (x_field (j := 0) _ _ rfl rfl Try.underlying72 rfl (by rfl) rfl) rfl ?_
    refine p_run (l' := [.pointer (some ⟨G, 0, none⟩), .int .i64 (i : Int), undef, undef, .slice none 0 0, .pointer (some ⟨G, 0, none⟩), .pointer (some ⟨G, 0, none⟩), .pointer (some ⟨G, 0, none⟩), .int .i64 (i : Int), .bool true, .bool false, .pointer (some ⟨G, 0, none⟩), .pointer (some ⟨G, 0, none⟩), .pointer (some ⟨G, 0, none⟩), .pointer (some ⟨G, 0, none⟩), undef, undef, undef, undef, undef, undef]) _ (x_field (j := 0) _ _ rfl rfl Try.underlying70 rfl (by rfl) rfl) rfl ?_
    refine p_run (l' := _) _ (x_load (.slice (some ad) fs.length c) rfl rfl (bkCell (HS.get (.head _)) 0 _ rfl) (by rfl)) rfl ?_
    refine p_run (l' := _) _ (x_move (.int .i64 (i : Int)) rfl rfl) rfl ?_
    refine p_run (l' := _) _ (x_index (A := ad) (j := i * 2) (sz := 2) rfl rfl rfl Try.underlying68 (by kernel_rfl) (by omega) rfl) rfl ?_
    refine p_run (l' := [.pointer (some ⟨G, 0, none⟩), .int .i64 (i : Int), undef, undef, .slice none 0 0, .pointer (some ⟨G, 0, none⟩), .pointer (some ⟨G, 0, none⟩), .pointer (some ⟨G, 0, none⟩), .int .i64 (i : Int), .bool true, .bool false, .pointer (some ⟨G, 0, none⟩), .pointer (some ⟨G, 0, none⟩), .pointer (some ⟨G, 0, none⟩), .pointer (some ⟨G, 0, none⟩), .slice (some ad) fs.length c, .int .i64 (i : Int), .pointer (some ((ad).add (i * 2))), .pointer (some (((ad).add (i * 2)).add 1)), undef, undef]) _ (x_fieldA _ _ rfl rfl Try.underlying75 rfl (by rfl)) rfl ?_
    refine p_run (l' := _) _ (x_load (.slice Af xs.length cf) rfl rfl (pk_c1 (HS.get (.tail _ (.head _))) (pk_get hf)) (by rfl)) rfl ?_
    refine w_call [.slice Af xs.length cf] Try.func40 (by kernel_rfl) (by rfl) rfl ?_
    refine (nClone_any HS rfl (fr_sl' (HS.allGet (.tail _ (.tail _ (.head _))) (frs_get hf))) (by omega)).mono ?_
    clear HS
    rintro e w17 ⟨oa15, nc16, rfl, HS⟩
    refine ⟨_, rfl, ?_⟩
    refine p_run (l' := _) _ (x_assign (.slice oa15 xs.length nc16) rfl rfl) rfl ?_
    refine wpList_nil ?_
    refine fr_at (l' := [.pointer (some ⟨G, 0, none⟩), .int .i64 (i : Int), undef, undef, .slice oa15 xs.length nc16, .pointer (some ⟨G, 0, none⟩), .pointer (some ⟨G, 0, none⟩), .pointer (some ⟨G, 0, none⟩), .int .i64 (i : Int), .bool true, .bool false, .pointer (some ⟨G, 0, none⟩), .pointer (some ⟨G, 0, none⟩), .pointer (some ⟨G, 0, none⟩), .pointer (some ⟨G, 0, none⟩), .slice (some ad) fs.length c, .int .i64 (i : Int), .pointer (some ((ad).add (i * 2))), .pointer (some (((ad).add (i * 2)).add 1)), .slice Af xs.length cf, .slice oa15 xs.length nc16]) rfl ?_
    refine hK12 _ _ ?_
    refine wp_ret ?_
    try simp only [Exit.inBlock, Exit.then]
    refine c_ret (.slice oa15 xs.length nc16) (r_tmp rfl rfl) ?_
    exact ⟨_, _, rfl, ((((HS.front 3 rfl).front 3 rfl).front 3 rfl).front 3 rfl)⟩

set_option maxRecDepth 10000 in
theorem nPeek_no (HS : St w0 F W (net G v fs L)) (i : Int) (hno : nTh fs i = false) : Calls Try.prog 28 #[.pointer (some ⟨G, 0, none⟩), .int .i64 i] W fun e w' => e = .returned (.slice none 0 0) ∧ w' = W := by
  refine c_enter Try.func28 rfl 21 rfl [.pointer (some ⟨G, 0, none⟩), .int .i64 i, undef, undef, undef, undef, undef, undef, undef, undef, undef, undef, undef, undef, undef, undef, undef, undef, undef, undef, undef] rfl ?_
  refine wp_seq_k (fun K1 hK2 => ?_)
  refine c_region (fun ops4 hops3 => ?_)
  clear hops3
  refine p_run (l' := _) _ (x_assign (.slice none 0 0) rfl rfl) rfl ?_
  refine wpList_nil ?_
  refine fr_at (l' := [.pointer (some ⟨G, 0, none⟩), .int .i64 i, undef, undef, .slice none 0 0, undef, undef, undef, undef, undef, undef, undef, undef, undef, undef, undef, undef, undef, undef, undef, undef]) rfl ?_
  refine hK2 _ _ ?_
  refine wp_seq_k (fun K5 hK6 => ?_)
  refine wp_seq_k (fun K7 hK8 => ?_)
  refine c_region (fun ops10 hops9 => ?_)
  clear hops9
  refine p_run (l' := _) _ (x_move (.pointer (some ⟨G, 0, none⟩)) rfl rfl) rfl ?_
  refine p_run (l' := _) _ (x_nil rfl rfl) rfl ?_
  refine p_run (l' := _) _ (x_field (j := 0) _ _ rfl rfl Try.underlying72 rfl (by rfl) rfl) rfl ?_
  refine p_run (l' := [.pointer (some ⟨G, 0, none⟩), .int .i64 i, undef, undef, .slice none 0 0, .pointer (some ⟨G, 0, none⟩), .pointer (some ⟨G, 0, none⟩), .pointer (some ⟨G, 0, none⟩), .int .i64 i, undef, undef, undef, undef, undef, undef, undef, undef, undef, undef, undef, undef]) _ (x_move (.int .i64 i) rfl rfl) rfl ?_
  refine w_call [.pointer (some ⟨G, 0, none⟩), .int .i64 i] Try.func42 (by kernel_rfl) (by rfl) rfl ?_
  replace HS := (((HS.front 2 rfl).front 2 rfl).front 2 rfl)
  refine (nThere_any HS _).mono ?_
  rintro e w' ⟨he_, rfl⟩
  rw [hno] at he_
  subst he_
  refine ⟨_, rfl, ?_⟩
  refine p_run (l' := _) _ (x_not false rfl rfl) rfl ?_
  refine wpList_nil ?_
  refine fr_at (l' := [.pointer (some ⟨G, 0, none⟩), .int .i64 i, undef, undef, .slice none 0 0, .pointer (some ⟨G, 0, none⟩), .pointer (some ⟨G, 0, none⟩), .pointer (some ⟨G, 0, none⟩), .int .i64 i, .bool false, .bool true, undef, undef, undef, undef, undef, undef, undef, undef, undef, undef]) rfl ?_
  refine hK8 _ _ ?_
  refine c_true rfl ?_
  refine wp_seq_k (fun K11 hK12 => ?_)
  refine c_region (fun ops14 hops13 => ?_)
  clear hops13
  refine p_run (l' := _) _ (x_assign (.slice none 0 0) rfl rfl) rfl ?_
  refine wpList_nil ?_
  refine fr_at (l' := [.pointer (some ⟨G, 0, none⟩), .int .i64 i, undef, undef, .slice none 0 0, .pointer (some ⟨G, 0, none⟩), .pointer (some ⟨G, 0, none⟩), .pointer (some ⟨G, 0, none⟩), .int .i64 i, .bool false, .bool true, undef, undef, undef, undef, undef, undef, undef, undef, undef, undef]) rfl ?_
  refine hK12 _ _ ?_
  refine wp_ret ?_
  try simp only [Exit.inBlock, Exit.then]
  refine c_ret (.slice none 0 0) (r_tmp rfl rfl) ?_
  exact ⟨rfl, rfl⟩

set_option maxRecDepth 10000 in
theorem nTake_yes (HS : St w0 F W (net G v fs L)) {i : Nat} {tt : Int} {fv : Value} {xs : List UInt8} (hf : fs[i]? = some (tt, fv, xs)) (hsm : fs.length ≤ 1000) : Calls Try.prog 24 #[.pointer (some ⟨G, 0, none⟩), .int .i64 (i : Int)] W fun e w' => ∃ v', e = .returned (.tuple #[fv, .int .i64 0]) ∧ St w0 F w' (row kByte rfl 5 fv xs :: net G v' (fs.eraseIdx i) L) := by
  refine c_enter Try.func24 rfl 18 rfl [.pointer (some ⟨G, 0, none⟩), .int .i64 (i : Int), undef, undef, undef, undef, undef, undef, undef, undef, undef, undef, undef, undef, undef, undef, undef, undef] rfl ?_
  refine wp_seq_k (fun K1 hK2 => ?_)
  refine c_region (fun ops4 hops3 => ?_)
  clear hops3
  refine p_run (l' := _) _ (x_assign (.slice none 0 0) rfl rfl) rfl ?_
  refine p_run (l' := _) _ (x_assign (.int .i64 0) rfl rfl) rfl ?_
  refine wpList_nil ?_
  refine fr_at (l' := [.pointer (some ⟨G, 0, none⟩), .int .i64 (i : Int), undef, undef, .slice none 0 0, .int .i64 0, undef, undef, undef, undef, undef, undef, undef, undef, undef, undef, undef, undef]) rfl ?_
  refine hK2 _ _ ?_
  refine wp_seq_k (fun K5 hK6 => ?_)
  refine wp_seq_k (fun K7 hK8 => ?_)
  refine c_region (fun ops10 hops9 => ?_)
  clear hops9
  refine p_run (l' := _) _ (x_move (.pointer (some ⟨G, 0, none⟩)) rfl rfl) rfl ?_
  refine p_run (l' := _) _ (x_nil rfl rfl) rfl ?_
  refine p_run (l' := _) _ (x_field (j := 0) _ _ rfl rfl Try.underlying72 rfl (by rfl) rfl) rfl ?_
  refine p_run (l' := [.pointer (some ⟨G, 0, none⟩), .int .i64 (i : Int), undef, undef, .slice none 0 0, .int .i64 0, .pointer (some ⟨G, 0, none⟩), .pointer (some ⟨G, 0, none⟩), .pointer (some ⟨G, 0, none⟩), .int .i64 (i : Int), undef, undef, undef, undef, undef, undef, undef, undef]) _ (x_move (.int .i64 (i : Int)) rfl rfl) rfl ?_
  refine w_call [.pointer (some ⟨G, 0, none⟩), .int .i64 (i : Int)] Try.func42 (by kernel_rfl) (by rfl) rfl ?_
  replace HS := (((HS.front 2 rfl).front 2 rfl).front 2 rfl)
  refine (nThere_any HS _).mono ?_
  rintro e w' ⟨he_, rfl⟩
  rw [th_in hf] at he_
  subst he_
  refine ⟨_, rfl, ?_⟩
  refine p_run (l' := _) _ (x_not true rfl rfl) rfl ?_
  refine wpList_nil ?_
  refine fr_at (l' := [.pointer (some ⟨G, 0, none⟩), .int .i64 (i : Int), undef, undef, .slice none 0 0, .int .i64 0, .pointer (some ⟨G, 0, none⟩), .pointer (some ⟨G, 0, none⟩), .pointer (some ⟨G, 0, none⟩), .int .i64 (i : Int), .bool true, .bool false, undef, undef, undef, undef, undef, undef]) rfl ?_
  refine hK8 _ _ ?_
  refine c_false rfl ?_
  refine wp_skip ?_
  refine hK6 _ _ ?_
  refine wp_seq_k (fun K11 hK12 => ?_)
  refine c_region (fun ops14 hops13 => ?_)
  clear hops13
  refine p_run (l' := _) _ (x_move (.pointer (some ⟨G, 0, none⟩)) rfl rfl) rfl ?_
  refine p_run (l' := _) _ (x_nil rfl rfl) rfl ?_
  refine p_run (l' := _) _ (x_field (j := 0) _ _ rfl rfl Try.underlying72 rfl (by rfl) rfl) rfl ?_
  refine p_run (l' := [.pointer (some ⟨G, 0, none⟩), .int .i64 (i : Int), undef, undef, .slice none 0 0, .int .i64 0, .pointer (some ⟨G, 0, none⟩), .pointer (some ⟨G, 0, none⟩), .pointer (some ⟨G, 0, none⟩), .int .i64 (i : Int), .bool true, .bool false, .pointer (some ⟨G, 0, none⟩), .pointer (some ⟨G, 0, none⟩), .pointer (some ⟨G, 0, none⟩), .int .i64 (i : Int), undef, undef]) _ (x_move (.int .i64 (i : Int)) rfl rfl) rfl ?_
  refine w_call [.pointer (some ⟨G, 0, none⟩), .int .i64 (i : Int)] Try.func43 (by kernel_rfl) (by rfl) rfl ?_
  replace HS := (((HS.front 2 rfl).front 2 rfl).front 2 rfl)
  refine (nTakeL_any HS hf hsm).mono ?_
  clear HS
  rintro e w16 ⟨v15, rfl, HS⟩
  refine ⟨_, rfl, ?_⟩
  refine p_run (l' := _) _ (x_fld (cs := [.int .i64 tt, fv]) (u := fv) _ _ rfl rfl Try.underlying75 rfl (by rfl) rfl) rfl ?_
  refine p_run (l' := _) _ (x_assign (fv) rfl rfl) rfl ?_
  refine p_run (l' := [.pointer (some ⟨G, 0, none⟩), .int .i64 (i : Int), undef, undef, fv, .int .i64 0, .pointer (some ⟨G, 0, none⟩), .pointer (some ⟨G, 0, none⟩), .pointer (some ⟨G, 0, none⟩), .int .i64 (i : Int), .bool true, .bool false, .pointer (some ⟨G, 0, none⟩), .pointer (some ⟨G, 0, none⟩), .pointer (some ⟨G, 0, none⟩), .int .i64 (i : Int), .agg ([.int .i64 tt, fv] : List Value).toArray, fv]) _ (x_assign (.int .i64 0) rfl rfl) rfl ?_
  refine wpList_nil ?_
  refine hK12 _ _ ?_
  refine wp_ret ?_
  try simp only [Exit.inBlock, Exit.then]
  refine c_ret (.tuple [fv, .int .i64 0].toArray) (r_tmp2 rfl rfl rfl) ?_
  exact ⟨_, rfl, ((((HS.front 3 rfl).front 3 rfl).front 3 rfl).front 3 rfl)⟩

set_option maxRecDepth 10000 in
theorem nTake_no (HS : St w0 F W (net G v fs L)) (i : Int) (hno : nTh fs i = false) : Calls Try.prog 24 #[.pointer (some ⟨G, 0, none⟩), .int .i64 i] W fun e w' => e = .returned (.tuple #[.slice none 0 0, .int .i64 191]) ∧ w' = W := by
  refine c_enter Try.func24 rfl 18 rfl [.pointer (some ⟨G, 0, none⟩), .int .i64 i, undef, undef, undef, undef, undef, undef, undef, undef, undef, undef, undef, undef, undef, undef, undef, undef] rfl ?_
  refine wp_seq_k (fun K1 hK2 => ?_)
  refine c_region (fun ops4 hops3 => ?_)
  clear hops3
  refine p_run (l' := _) _ (x_assign (.slice none 0 0) rfl rfl) rfl ?_
  refine p_run (l' := _) _ (x_assign (.int .i64 0) rfl rfl) rfl ?_
  refine wpList_nil ?_
  refine fr_at (l' := [.pointer (some ⟨G, 0, none⟩), .int .i64 i, undef, undef, .slice none 0 0, .int .i64 0, undef, undef, undef, undef, undef, undef, undef, undef, undef, undef, undef, undef]) rfl ?_
  refine hK2 _ _ ?_
  refine wp_seq_k (fun K5 hK6 => ?_)
  refine wp_seq_k (fun K7 hK8 => ?_)
  refine c_region (fun ops10 hops9 => ?_)
  clear hops9
  refine p_run (l' := _) _ (x_move (.pointer (some ⟨G, 0, none⟩)) rfl rfl) rfl ?_
  refine p_run (l' := _) _ (x_nil rfl rfl) rfl ?_
  refine p_run (l' := _) _ (x_field (j := 0) _ _ rfl rfl Try.underlying72 rfl (by rfl) rfl) rfl ?_
  refine p_run (l' := [.pointer (some ⟨G, 0, none⟩), .int .i64 i, undef, undef, .slice none 0 0, .int .i64 0, .pointer (some ⟨G, 0, none⟩), .pointer (some ⟨G, 0, none⟩), .pointer (some ⟨G, 0, none⟩), .int .i64 i, undef, undef, undef, undef, undef, undef, undef, undef]) _ (x_move (.int .i64 i) rfl rfl) rfl ?_
  refine w_call [.pointer (some ⟨G, 0, none⟩), .int .i64 i] Try.func42 (by kernel_rfl) (by rfl) rfl ?_
  replace HS := (((HS.front 2 rfl).front 2 rfl).front 2 rfl)
  refine (nThere_any HS _).mono ?_
  rintro e w' ⟨he_, rfl⟩
  rw [hno] at he_
  subst he_
  refine ⟨_, rfl, ?_⟩
  refine p_run (l' := _) _ (x_not false rfl rfl) rfl ?_
  refine wpList_nil ?_
  refine fr_at (l' := [.pointer (some ⟨G, 0, none⟩), .int .i64 i, undef, undef, .slice none 0 0, .int .i64 0, .pointer (some ⟨G, 0, none⟩), .pointer (some ⟨G, 0, none⟩), .pointer (some ⟨G, 0, none⟩), .int .i64 i, .bool false, .bool true, undef, undef, undef, undef, undef, undef]) rfl ?_
  refine hK8 _ _ ?_
  refine c_true rfl ?_
  refine wp_seq_k (fun K11 hK12 => ?_)
  refine c_region (fun ops14 hops13 => ?_)
  clear hops13
  refine p_run (l' := _) _ (x_assign (.slice none 0 0) rfl rfl) rfl ?_
  refine p_run (l' := _) _ (x_assign (.int .i64 191) rfl rfl) rfl ?_
  refine wpList_nil ?_
  refine fr_at (l' := [.pointer (some ⟨G, 0, none⟩), .int .i64 i, undef, undef, .slice none 0 0, .int .i64 191, .pointer (some ⟨G, 0, none⟩), .pointer (some ⟨G, 0, none⟩), .pointer (some ⟨G, 0, none⟩), .int .i64 i, .bool false, .bool true, undef, undef, undef, undef, undef, undef]) rfl ?_
  refine hK12 _ _ ?_
  refine wp_ret ?_
  try simp only [Exit.inBlock, Exit.then]
  refine c_ret (.tuple [.slice none 0 0, .int .i64 191].toArray) (r_tmp2 rfl rfl rfl) ?_
  exact ⟨rfl, rfl⟩

set_option maxRecDepth 10000 in
theorem nTwice_yes (HS : St w0 F W (net G v fs L)) {i : Nat} {tt : Int} {fv : Value} {xs : List UInt8} (hf : fs[i]? = some (tt, fv, xs)) (hsm : fs.length ≤ 900) (hl : xs.length ≤ 1000000) : Calls Try.prog 27 #[.pointer (some ⟨G, 0, none⟩), .int .i64 (i : Int)] W fun e w' => ∃ v' fv', e = .returned (.int .i64 0) ∧ St w0 F w' (net G v' (sendF fs tt fv' xs) L) := by
  obtain ⟨A, c, hv, hcap, -⟩ := row_reads (HS.get (.tail _ (.head _)))
  rw [pk_length] at hv hcap
  subst hv
  have hi := (List.getElem?_eq_some_iff.1 hf).1
  obtain ⟨ad, rfl⟩ := pk_some (HS.get (.tail _ (.head _))) (pk_get hf)
  obtain ⟨Af, cf, hfv, -⟩ := fr_sl (HS.allGet (.tail _ (.tail _ (.head _))) (frs_get hf))
  dsimp only at hfv
  subst hfv
  · skip
    refine c_enter Try.func27 rfl 31 rfl [.pointer (some ⟨G, 0, none⟩), .int .i64 (i : Int), undef, undef, undef, undef, undef, undef, undef, undef, undef, undef, undef, undef, undef, undef, undef, undef, undef, undef, undef, undef, undef, undef, undef, undef, undef, undef, undef, undef, undef] rfl ?_
    refine wp_seq_k (fun K1 hK2 => ?_)
    refine c_region (fun ops4 hops3 => ?_)
    clear hops3
    refine p_run (l' := _) _ (x_assign (.int .i64 0) rfl rfl) rfl ?_
    refine wpList_nil ?_
    refine fr_at (l' := [.pointer (some ⟨G, 0, none⟩), .int .i64 (i : Int), undef, undef, .int .i64 0, undef, undef, undef, undef, undef, undef, undef, undef, undef, undef, undef, undef, undef, undef, undef, undef, undef, undef, undef, undef, undef, undef, undef, undef, undef, undef]) rfl ?_
    refine hK2 _ _ ?_
    refine wp_seq_k (fun K5 hK6 => ?_)
    refine wp_seq_k (fun K7 hK8 => ?_)
    refine c_region (fun ops10 hops9 => ?_)
    clear hops9
    refine p_run (l' := _) _ (x_move (.pointer (some ⟨G, 0, none⟩)) rfl rfl) rfl ?_
    refine p_run (l' := _) _ (x_nil rfl rfl) rfl ?_
    refine p_run (l' := _) _ (x_field (j := 0) _ _ rfl rfl Try.underlying72 rfl (by rfl) rfl) rfl ?_
    refine p_run (l' := [.pointer (some ⟨G, 0, none⟩), .int .i64 (i : Int), undef, undef, .int .i64 0, .pointer (some ⟨G, 0, none⟩), .pointer (some ⟨G, 0, none⟩), .pointer (some ⟨G, 0, none⟩), .int .i64 (i : Int), undef, undef, undef, undef, undef, undef, undef, undef, undef, undef, undef, undef, undef, undef, undef, undef, undef, undef, undef, undef, undef, undef]) _ (x_move (.int .i64 (i : Int)) rfl rfl) rfl ?_
    refine w_call [.pointer (some ⟨G, 0, none⟩), .int .i64 (i : Int)] Try.func42 (by kernel_rfl) (by rfl) rfl ?_
    replace HS := (((HS.front 2 rfl).front 2 rfl).front 2 rfl)
    refine (nThere_any HS _).mono ?_
    rintro e w' ⟨he_, rfl⟩
    rw [th_in hf] at he_
    subst he_
    refine ⟨_, rfl, ?_⟩
    refine p_run (l' := _) _ (x_not true rfl rfl) rfl ?_
    refine wpList_nil ?_
    refine fr_at (l' := [.pointer (some ⟨G, 0, none⟩), .int .i64 (i : Int), undef, undef, .int .i64 0, .pointer (some ⟨G, 0, none⟩), .pointer (some ⟨G, 0, none⟩), .pointer (some ⟨G, 0, none⟩), .int .i64 (i : Int), .bool true, .bool false, undef, undef, undef, undef, undef, undef, undef, undef, undef, undef, undef, undef, undef, undef, undef, undef, undef, undef, undef, undef]) rfl ?_
    refine hK8 _ _ ?_
    refine c_false rfl ?_
    refine wp_skip ?_
    refine hK6 _ _ ?_
    refine wp_seq_k (fun K11 hK12 => ?_)
    refine free_frame (n := 20) (T := _) [0, 0, 2, 6, 14, 30, 0, 126, 254, 510, 0, 1024, 3072, 7168, 15360, 0, 64512, 130048, 261120, 524287] [(0, 11), (1, 12), (2, 13), (3, 14), (4, 15), (5, 16), (6, 17), (7, 18), (8, 19), (9, 20), (10, 21), (11, 22), (12, 23), (13, 24), (14, 25), (15, 26), (16, 27), (17, 28), (18, 29), (19, 30)] (fun bq_ vq_ w_ => qv ((fun i_ => match i_ with | 0 => some (.pointer (some ⟨G, 0, none⟩)) | 1 => some (.pointer (some ⟨G, 0, none⟩)) | 2 => some (.pointer (some ⟨G, 0, none⟩)) | 3 => some (.pointer (some ⟨G, 0, none⟩)) | 4 => some (.pointer (some ⟨G, 0, none⟩)) | 5 => some (.slice (some ad) fs.length c) | 6 => some (.int .i64 (i : Int)) | 7 => some (.pointer (some ((ad).add (i * 2)))) | 8 => some (.pointer (some (((ad).add (i * 2)).add 0))) | 9 => some (.int .i64 tt) | 10 => some (.pointer (some ⟨G, 0, none⟩)) | 11 => some (.pointer (some ⟨G, 0, none⟩)) | 12 => some (.pointer (some ⟨G, 0, none⟩)) | 13 => some (.pointer (some ⟨G, 0, none⟩)) | 14 => some (.slice (some ad) fs.length c) | 15 => some (.int .i64 (i : Int)) | 16 => some (.pointer (some ((ad).add (i * 2)))) | 17 => some (.pointer (some (((ad).add (i * 2)).add 1))) | 18 => some (.slice Af xs.length cf) | _ => none) : Nat → Option Value) bq_ vq_ ∧ cond (bq_ 19) (∃ (v15 : Value) (v16 : Value), vq_ 19 = .tuple [].toArray ∧ St w0 F w_ (blk G [v15] 72 :: row kPk rfl 75 v15 (pk (sendF fs tt v16 xs)) :: allR (frs (sendF fs tt v16 xs)) :: L)) ((St w0 F w_ (blk G [.slice (some ad) fs.length c] 72 :: row kPk rfl 75 (.slice (some ad) fs.length c) (pk fs) :: allR (frs fs) :: L)))) (by kernel_rfl) rfl rfl (by kernel_rfl) (by kernel_rfl) rfl (by kernel_rfl) (by kernel_rfl) ⟨qv_none, HS.draw⟩ ?_ ?_
    · clear HS
      intro i_ hi_ bq_ vq_ a_ w_ hG hb_ hon hoff hfr hel hval
      obtain ⟨hV, hE⟩ := hG
      have hi_ := List.mem_range.1 hi_
      have hcs : i_ = 0 ∨ i_ = 1 ∨ i_ = 2 ∨ i_ = 3 ∨ i_ = 4 ∨ i_ = 5 ∨ i_ = 6 ∨ i_ = 7 ∨ i_ = 8 ∨ i_ = 9 ∨ i_ = 10 ∨ i_ = 11 ∨ i_ = 12 ∨ i_ = 13 ∨ i_ = 14 ∨ i_ = 15 ∨ i_ = 16 ∨ i_ = 17 ∨ i_ = 18 ∨ i_ = 19 := by omega
      rcases hcs with rfl | rfl | rfl | rfl | rfl | rfl | rfl | rfl | rfl | rfl | rfl | rfl | rfl | rfl | rfl | rfl | rfl | rfl | rfl | rfl
      · have h0 : a_.tmps[0]? = some (.pointer (some ⟨G, 0, none⟩)) := (hel 0 (by decide)).trans rfl
        obtain ⟨l_, rfl⟩ := hfr
        have e0 : evl l_ (.tmp 0) = .pointer (some ⟨G, 0, none⟩) := evl_of h0
        refine ⟨_, rfl, fun K_ hK_ => wp_of_list rfl ?_⟩
        intro ops_
        refine p_run (l' := _) _ (x_move (.pointer (some ⟨G, 0, none⟩)) rfl e0) rfl ?_
        refine wpList_nil ?_
        exact norm_put (hK_ (.pointer (some ⟨G, 0, none⟩)) _ ⟨qv_up hV (fun _ h => Option.some.inj h), hE⟩)
      · have h0 : a_.tmps[0]? = some (.pointer (some ⟨G, 0, none⟩)) := (hel 0 (by decide)).trans rfl
        obtain ⟨l_, rfl⟩ := hfr
        have e0 : evl l_ (.tmp 0) = .pointer (some ⟨G, 0, none⟩) := evl_of h0
        refine ⟨_, rfl, fun K_ hK_ => wp_of_list rfl ?_⟩
        intro ops_
        refine p_run (l' := _) _ (x_move (.pointer (some ⟨G, 0, none⟩)) rfl e0) rfl ?_
        refine wpList_nil ?_
        exact norm_put (hK_ (.pointer (some ⟨G, 0, none⟩)) _ ⟨qv_up hV (fun _ h => Option.some.inj h), hE⟩)
      · have h12 : a_.tmps[12]? = some (.pointer (some ⟨G, 0, none⟩)) := (hval (1, 12) (by decide) (hon 1 (by decide))).trans (congrArg some (hV 1 _ rfl (hon 1 (by decide))))
        obtain ⟨l_, rfl⟩ := hfr
        have e12 : evl l_ (.tmp 12) = .pointer (some ⟨G, 0, none⟩) := evl_of h12
        refine ⟨_, rfl, fun K_ hK_ => wp_of_list rfl ?_⟩
        intro ops_
        refine p_run (l' := _) _ (x_nil rfl e12) rfl ?_
        refine wpList_nil ?_
        exact norm_put (hK_ (.pointer (some ⟨G, 0, none⟩)) _ ⟨qv_up hV (fun _ h => Option.some.inj h), hE⟩)
      · have h13 : a_.tmps[13]? = some (.pointer (some ⟨G, 0, none⟩)) := (hval (2, 13) (by decide) (hon 2 (by decide))).trans (congrArg some (hV 2 _ rfl (hon 2 (by decide))))
        obtain ⟨l_, rfl⟩ := hfr
        have e13 : evl l_ (.tmp 13) = .pointer (some ⟨G, 0, none⟩) := evl_of h13
        refine ⟨_, rfl, fun K_ hK_ => wp_of_list rfl ?_⟩
        intro ops_
        refine p_run (l' := _) _ (x_field (j := 0) _ _ rfl e13 Try.underlying72 rfl (by rfl) rfl) rfl ?_
        refine wpList_nil ?_
        exact norm_put (hK_ (.pointer (some ⟨G, 0, none⟩)) _ ⟨qv_up hV (fun _ h => Option.some.inj h), hE⟩)
      · have h14 : a_.tmps[14]? = some (.pointer (some ⟨G, 0, none⟩)) := (hval (3, 14) (by decide) (hon 3 (by decide))).trans (congrArg some (hV 3 _ rfl (hon 3 (by decide))))
        obtain ⟨l_, rfl⟩ := hfr
        have e14 : evl l_ (.tmp 14) = .pointer (some ⟨G, 0, none⟩) := evl_of h14
        refine ⟨_, rfl, fun K_ hK_ => wp_of_list rfl ?_⟩
        intro ops_
        refine p_run (l' := _) _ (x_field (j := 0) _ _ rfl e14 Try.underlying70 rfl (by rfl) rfl) rfl ?_
        refine wpList_nil ?_
        exact norm_put (hK_ (.pointer (some ⟨G, 0, none⟩)) _ ⟨qv_up hV (fun _ h => Option.some.inj h), hE⟩)
      · have h15 : a_.tmps[15]? = some (.pointer (some ⟨G, 0, none⟩)) := (hval (4, 15) (by decide) (hon 4 (by decide))).trans (congrArg some (hV 4 _ rfl (hon 4 (by decide))))
        obtain ⟨l_, rfl⟩ := hfr
        have hE0 := hE
        rw [show bq_ 19 = false from (hoff 19 (by decide))] at hE0
        simp only [cond_true, cond_false] at hE0
        have HS := hE0
        have e15 : evl l_ (.tmp 15) = .pointer (some ⟨G, 0, none⟩) := evl_of h15
        refine ⟨_, rfl, fun K_ hK_ => wp_of_list rfl ?_⟩
        intro ops_
        refine p_run (l' := _) _ (x_load (.slice (some ad) fs.length c) rfl e15 (bkCell (HS.get (.head _)) 0 _ rfl) (by rfl)) rfl ?_
        refine wpList_nil ?_
        exact norm_put (hK_ (.slice (some ad) fs.length c) _ ⟨qv_up hV (fun _ h => Option.some.inj h), hE⟩)
      · have h1 : a_.tmps[1]? = some (.int .i64 (i : Int)) := (hel 1 (by decide)).trans rfl
        obtain ⟨l_, rfl⟩ := hfr
        have e1 : evl l_ (.tmp 1) = .int .i64 (i : Int) := evl_of h1
        refine ⟨_, rfl, fun K_ hK_ => wp_of_list rfl ?_⟩
        intro ops_
        refine p_run (l' := _) _ (x_move (.int .i64 (i : Int)) rfl e1) rfl ?_
        refine wpList_nil ?_
        exact norm_put (hK_ (.int .i64 (i : Int)) _ ⟨qv_up hV (fun _ h => Option.some.inj h), hE⟩)
      · have h16 : a_.tmps[16]? = some (.slice (some ad) fs.length c) := (hval (5, 16) (by decide) (hon 5 (by decide))).trans (congrArg some (hV 5 _ rfl (hon 5 (by decide))))
        have h17 : a_.tmps[17]? = some (.int .i64 (i : Int)) := (hval (6, 17) (by decide) (hon 6 (by decide))).trans (congrArg some (hV 6 _ rfl (hon 6 (by decide))))
        obtain ⟨l_, rfl⟩ := hfr
        have e16 : evl l_ (.tmp 16) = .slice (some ad) fs.length c := evl_of h16
        have e17 : evl l_ (.tmp 17) = .int .i64 (i : Int) := evl_of h17
        refine ⟨_, rfl, fun K_ hK_ => wp_of_list rfl ?_⟩
        intro ops_
        refine p_run (l' := _) _ (x_index (A := ad) (j := i * 2) (sz := 2) rfl e16 e17 Try.underlying68 (by kernel_rfl) (by omega) rfl) rfl ?_
        refine wpList_nil ?_
        exact norm_put (hK_ (.pointer (some ((ad).add (i * 2)))) _ ⟨qv_up hV (fun _ h => Option.some.inj h), hE⟩)
      · have h18 : a_.tmps[18]? = some (.pointer (some ((ad).add (i * 2)))) := (hval (7, 18) (by decide) (hon 7 (by decide))).trans (congrArg some (hV 7 _ rfl (hon 7 (by decide))))
        obtain ⟨l_, rfl⟩ := hfr
        have e18 : evl l_ (.tmp 18) = .pointer (some ((ad).add (i * 2))) := evl_of h18
        refine ⟨_, rfl, fun K_ hK_ => wp_of_list rfl ?_⟩
        intro ops_
        refine p_run (l' := _) _ (x_fieldA _ _ rfl e18 Try.underlying75 rfl (by rfl)) rfl ?_
        refine wpList_nil ?_
        exact norm_put (hK_ (.pointer (some (((ad).add (i * 2)).add 0))) _ ⟨qv_up hV (fun _ h => Option.some.inj h), hE⟩)
      · have h19 : a_.tmps[19]? = some (.pointer (some (((ad).add (i * 2)).add 0))) := (hval (8, 19) (by decide) (hon 8 (by decide))).trans (congrArg some (hV 8 _ rfl (hon 8 (by decide))))
        obtain ⟨l_, rfl⟩ := hfr
        have hE0 := hE
        rw [show bq_ 19 = false from (hoff 19 (by decide))] at hE0
        simp only [cond_true, cond_false] at hE0
        have HS := hE0
        have e19 : evl l_ (.tmp 19) = .pointer (some (((ad).add (i * 2)).add 0)) := evl_of h19
        refine ⟨_, rfl, fun K_ hK_ => wp_of_list rfl ?_⟩
        intro ops_
        refine p_run (l' := _) _ (x_load (.int .i64 tt) rfl e19 (pk_c0 (HS.get (.tail _ (.head _))) (pk_get hf)) (by rfl)) rfl ?_
        refine wpList_nil ?_
        exact norm_put (hK_ (.int .i64 tt) _ ⟨qv_up hV (fun _ h => Option.some.inj h), hE⟩)
      · have h0 : a_.tmps[0]? = some (.pointer (some ⟨G, 0, none⟩)) := (hel 0 (by decide)).trans rfl
        obtain ⟨l_, rfl⟩ := hfr
        have e0 : evl l_ (.tmp 0) = .pointer (some ⟨G, 0, none⟩) := evl_of h0
        refine ⟨_, rfl, fun K_ hK_ => wp_of_list rfl ?_⟩
        intro ops_
        refine p_run (l' := _) _ (x_move (.pointer (some ⟨G, 0, none⟩)) rfl e0) rfl ?_
        refine wpList_nil ?_
        exact norm_put (hK_ (.pointer (some ⟨G, 0, none⟩)) _ ⟨qv_up hV (fun _ h => Option.some.inj h), hE⟩)
      · have h21 : a_.tmps[21]? = some (.pointer (some ⟨G, 0, none⟩)) := (hval (10, 21) (by decide) (hon 10 (by decide))).trans (congrArg some (hV 10 _ rfl (hon 10 (by decide))))
        obtain ⟨l_, rfl⟩ := hfr
        have e21 : evl l_ (.tmp 21) = .pointer (some ⟨G, 0, none⟩) := evl_of h21
        refine ⟨_, rfl, fun K_ hK_ => wp_of_list rfl ?_⟩
        intro ops_
        refine p_run (l' := _) _ (x_nil rfl e21) rfl ?_
        refine wpList_nil ?_
        exact norm_put (hK_ (.pointer (some ⟨G, 0, none⟩)) _ ⟨qv_up hV (fun _ h => Option.some.inj h), hE⟩)
      · have h22 : a_.tmps[22]? = some (.pointer (some ⟨G, 0, none⟩)) := (hval (11, 22) (by decide) (hon 11 (by decide))).trans (congrArg some (hV 11 _ rfl (hon 11 (by decide))))
        obtain ⟨l_, rfl⟩ := hfr
        have e22 : evl l_ (.tmp 22) = .pointer (some ⟨G, 0, none⟩) := evl_of h22
        refine ⟨_, rfl, fun K_ hK_ => wp_of_list rfl ?_⟩
        intro ops_
        refine p_run (l' := _) _ (x_field (j := 0) _ _ rfl e22 Try.underlying72 rfl (by rfl) rfl) rfl ?_
        refine wpList_nil ?_
        exact norm_put (hK_ (.pointer (some ⟨G, 0, none⟩)) _ ⟨qv_up hV (fun _ h => Option.some.inj h), hE⟩)
      · have h23 : a_.tmps[23]? = some (.pointer (some ⟨G, 0, none⟩)) := (hval (12, 23) (by decide) (hon 12 (by decide))).trans (congrArg some (hV 12 _ rfl (hon 12 (by decide))))
        obtain ⟨l_, rfl⟩ := hfr
        have e23 : evl l_ (.tmp 23) = .pointer (some ⟨G, 0, none⟩) := evl_of h23
        refine ⟨_, rfl, fun K_ hK_ => wp_of_list rfl ?_⟩
        intro ops_
        refine p_run (l' := _) _ (x_field (j := 0) _ _ rfl e23 Try.underlying70 rfl (by rfl) rfl) rfl ?_
        refine wpList_nil ?_
        exact norm_put (hK_ (.pointer (some ⟨G, 0, none⟩)) _ ⟨qv_up hV (fun _ h => Option.some.inj h), hE⟩)
      · have h24 : a_.tmps[24]? = some (.pointer (some ⟨G, 0, none⟩)) := (hval (13, 24) (by decide) (hon 13 (by decide))).trans (congrArg some (hV 13 _ rfl (hon 13 (by decide))))
        obtain ⟨l_, rfl⟩ := hfr
        have hE0 := hE
        rw [show bq_ 19 = false from (hoff 19 (by decide))] at hE0
        simp only [cond_true, cond_false] at hE0
        have HS := hE0
        have e24 : evl l_ (.tmp 24) = .pointer (some ⟨G, 0, none⟩) := evl_of h24
        refine ⟨_, rfl, fun K_ hK_ => wp_of_list rfl ?_⟩
        intro ops_
        refine p_run (l' := _) _ (x_load (.slice (some ad) fs.length c) rfl e24 (bkCell (HS.get (.head _)) 0 _ rfl) (by rfl)) rfl ?_
        refine wpList_nil ?_
        exact norm_put (hK_ (.slice (some ad) fs.length c) _ ⟨qv_up hV (fun _ h => Option.some.inj h), hE⟩)
      · have h1 : a_.tmps[1]? = some (.int .i64 (i : Int)) := (hel 1 (by decide)).trans rfl
        obtain ⟨l_, rfl⟩ := hfr
        have e1 : evl l_ (.tmp 1) = .int .i64 (i : Int) := evl_of h1
        refine ⟨_, rfl, fun K_ hK_ => wp_of_list rfl ?_⟩
        intro ops_
        refine p_run (l' := _) _ (x_move (.int .i64 (i : Int)) rfl e1) rfl ?_
        refine wpList_nil ?_
        exact norm_put (hK_ (.int .i64 (i : Int)) _ ⟨qv_up hV (fun _ h => Option.some.inj h), hE⟩)
      · have h25 : a_.tmps[25]? = some (.slice (some ad) fs.length c) := (hval (14, 25) (by decide) (hon 14 (by decide))).trans (congrArg some (hV 14 _ rfl (hon 14 (by decide))))
        have h26 : a_.tmps[26]? = some (.int .i64 (i : Int)) := (hval (15, 26) (by decide) (hon 15 (by decide))).trans (congrArg some (hV 15 _ rfl (hon 15 (by decide))))
        obtain ⟨l_, rfl⟩ := hfr
        have e25 : evl l_ (.tmp 25) = .slice (some ad) fs.length c := evl_of h25
        have e26 : evl l_ (.tmp 26) = .int .i64 (i : Int) := evl_of h26
        refine ⟨_, rfl, fun K_ hK_ => wp_of_list rfl ?_⟩
        intro ops_
        refine p_run (l' := _) _ (x_index (A := ad) (j := i * 2) (sz := 2) rfl e25 e26 Try.underlying68 (by kernel_rfl) (by omega) rfl) rfl ?_
        refine wpList_nil ?_
        exact norm_put (hK_ (.pointer (some ((ad).add (i * 2)))) _ ⟨qv_up hV (fun _ h => Option.some.inj h), hE⟩)
      · have h27 : a_.tmps[27]? = some (.pointer (some ((ad).add (i * 2)))) := (hval (16, 27) (by decide) (hon 16 (by decide))).trans (congrArg some (hV 16 _ rfl (hon 16 (by decide))))
        obtain ⟨l_, rfl⟩ := hfr
        have e27 : evl l_ (.tmp 27) = .pointer (some ((ad).add (i * 2))) := evl_of h27
        refine ⟨_, rfl, fun K_ hK_ => wp_of_list rfl ?_⟩
        intro ops_
        refine p_run (l' := _) _ (x_fieldA _ _ rfl e27 Try.underlying75 rfl (by rfl)) rfl ?_
        refine wpList_nil ?_
        exact norm_put (hK_ (.pointer (some (((ad).add (i * 2)).add 1))) _ ⟨qv_up hV (fun _ h => Option.some.inj h), hE⟩)
      · have h28 : a_.tmps[28]? = some (.pointer (some (((ad).add (i * 2)).add 1))) := (hval (17, 28) (by decide) (hon 17 (by decide))).trans (congrArg some (hV 17 _ rfl (hon 17 (by decide))))
        obtain ⟨l_, rfl⟩ := hfr
        have hE0 := hE
        rw [show bq_ 19 = false from (hoff 19 (by decide))] at hE0
        simp only [cond_true, cond_false] at hE0
        have HS := hE0
        have e28 : evl l_ (.tmp 28) = .pointer (some (((ad).add (i * 2)).add 1)) := evl_of h28
        refine ⟨_, rfl, fun K_ hK_ => wp_of_list rfl ?_⟩
        intro ops_
        refine p_run (l' := _) _ (x_load (.slice Af xs.length cf) rfl e28 (pk_c1 (HS.get (.tail _ (.head _))) (pk_get hf)) (by rfl)) rfl ?_
        refine wpList_nil ?_
        exact norm_put (hK_ (.slice Af xs.length cf) _ ⟨qv_up hV (fun _ h => Option.some.inj h), hE⟩)
      · have h11 : a_.tmps[11]? = some (.pointer (some ⟨G, 0, none⟩)) := (hval (0, 11) (by decide) (hon 0 (by decide))).trans (congrArg some (hV 0 _ rfl (hon 0 (by decide))))
        have h20 : a_.tmps[20]? = some (.int .i64 tt) := (hval (9, 20) (by decide) (hon 9 (by decide))).trans (congrArg some (hV 9 _ rfl (hon 9 (by decide))))
        have h29 : a_.tmps[29]? = some (.slice Af xs.length cf) := (hval (18, 29) (by decide) (hon 18 (by decide))).trans (congrArg some (hV 18 _ rfl (hon 18 (by decide))))
        obtain ⟨l_, rfl⟩ := hfr
        have hE0 := hE
        rw [show bq_ 19 = false from hb_] at hE0
        simp only [cond_true, cond_false] at hE0
        have HS := hE0
        have e11 : evl l_ (.tmp 11) = .pointer (some ⟨G, 0, none⟩) := evl_of h11
        have e20 : evl l_ (.tmp 20) = .int .i64 tt := evl_of h20
        have e29 : evl l_ (.tmp 29) = .slice Af xs.length cf := evl_of h29
        refine ⟨_, rfl, fun K_ hK_ => wp_of_list rfl ?_⟩
        intro ops_
        refine w_call [.pointer (some ⟨G, 0, none⟩), .int .i64 tt, .slice Af xs.length cf] Try.func23 (by kernel_rfl) (by rfl) (by simp only [List.map_cons, List.map_nil, e11, e20, e29] <;> rfl) ?_
        replace HS := (((HS.front 2 rfl).front 2 rfl).front 2 rfl)
        refine (nSend_any HS tt (fun w hw => fr_sl' (hw.allGet (.tail _ (.tail _ (.head _))) (frs_get hf))) (by omega) (by omega)).mono ?_
        clear HS
        rintro e w901903 ⟨v901901, v901902, rfl, HS⟩
        refine ⟨_, rfl, ?_⟩
        refine wpList_nil ?_
        refine norm_put (hK_ (.tuple [].toArray) _ ⟨qv_up hV (by intro _ h; cases h), ?_⟩)
        show cond true _ _
        rw [cond_true]
        exact ⟨v901901, v901902, rfl, (((HS.front 2 rfl).front 2 rfl).front 2 rfl)⟩
    intro bq_ vq_ w_ hall hG
    obtain ⟨hV, hE⟩ := hG
    clear HS
    rw [show bq_ 19 = true from hall 19 (by decide)] at hE
    simp only [cond_true] at hE
    obtain ⟨v15, v16, hv19, HS⟩ := hE
    have hv0 := hV 0 _ rfl (hall 0 (by decide))
    have hv1 := hV 1 _ rfl (hall 1 (by decide))
    have hv2 := hV 2 _ rfl (hall 2 (by decide))
    have hv3 := hV 3 _ rfl (hall 3 (by decide))
    have hv4 := hV 4 _ rfl (hall 4 (by decide))
    have hv5 := hV 5 _ rfl (hall 5 (by decide))
    have hv6 := hV 6 _ rfl (hall 6 (by decide))
    have hv7 := hV 7 _ rfl (hall 7 (by decide))
    have hv8 := hV 8 _ rfl (hall 8 (by decide))
    have hv9 := hV 9 _ rfl (hall 9 (by decide))
    have hv10 := hV 10 _ rfl (hall 10 (by decide))
    have hv11 := hV 11 _ rfl (hall 11 (by decide))
    have hv12 := hV 12 _ rfl (hall 12 (by decide))
    have hv13 := hV 13 _ rfl (hall 13 (by decide))
    have hv14 := hV 14 _ rfl (hall 14 (by decide))
    have hv15 := hV 15 _ rfl (hall 15 (by decide))
    have hv16 := hV 16 _ rfl (hall 16 (by decide))
    have hv17 := hV 17 _ rfl (hall 17 (by decide))
    have hv18 := hV 18 _ rfl (hall 18 (by decide))
    clear hV hall
    rw [putSel_fr]
    simp only [tells, List.map_cons, List.map_nil, setAll, List.set_cons_succ, List.set_cons_zero, hv0, hv1, hv2, hv3, hv4, hv5, hv6, hv7, hv8, hv9, hv10, hv11, hv12, hv13, hv14, hv15, hv16, hv17, hv18, hv19]
    clear hv0 hv1 hv2 hv3 hv4 hv5 hv6 hv7 hv8 hv9 hv10 hv11 hv12 hv13 hv14 hv15 hv16 hv17 hv18 hv19
    generalize w_ = w901904 at HS ⊢
    refine fr_at (l' := [.pointer (some ⟨G, 0, none⟩), .int .i64 (i : Int), undef, undef, .int .i64 0, .pointer (some ⟨G, 0, none⟩), .pointer (some ⟨G, 0, none⟩), .pointer (some ⟨G, 0, none⟩), .int .i64 (i : Int), .bool true, .bool false, .pointer (some ⟨G, 0, none⟩), .pointer (some ⟨G, 0, none⟩), .pointer (some ⟨G, 0, none⟩), .pointer (some ⟨G, 0, none⟩), .pointer (some ⟨G, 0, none⟩), .slice (some ad) fs.length c, .int .i64 (i : Int), .pointer (some ((ad).add (i * 2))), .pointer (some (((ad).add (i * 2)).add 0)), .int .i64 tt, .pointer (some ⟨G, 0, none⟩), .pointer (some ⟨G, 0, none⟩), .pointer (some ⟨G, 0, none⟩), .pointer (some ⟨G, 0, none⟩), .slice (some ad) fs.length c, .int .i64 (i : Int), .pointer (some ((ad).add (i * 2))), .pointer (some (((ad).add (i * 2)).add 1)), .slice Af xs.length cf, .tuple [].toArray]) rfl ?_
    refine hK12 _ _ ?_
    refine wp_seq_k (fun K901905 hK901906 => ?_)
    refine c_region (fun ops901908 hops901907 => ?_)
    clear hops901907
    refine p_run (l' := _) _ (x_assign (.int .i64 0) rfl rfl) rfl ?_
    refine wpList_nil ?_
    refine fr_at (l' := [.pointer (some ⟨G, 0, none⟩), .int .i64 (i : Int), undef, undef, .int .i64 0, .pointer (some ⟨G, 0, none⟩), .pointer (some ⟨G, 0, none⟩), .pointer (some ⟨G, 0, none⟩), .int .i64 (i : Int), .bool true, .bool false, .pointer (some ⟨G, 0, none⟩), .pointer (some ⟨G, 0, none⟩), .pointer (some ⟨G, 0, none⟩), .pointer (some ⟨G, 0, none⟩), .pointer (some ⟨G, 0, none⟩), .slice (some ad) fs.length c, .int .i64 (i : Int), .pointer (some ((ad).add (i * 2))), .pointer (some (((ad).add (i * 2)).add 0)), .int .i64 tt, .pointer (some ⟨G, 0, none⟩), .pointer (some ⟨G, 0, none⟩), .pointer (some ⟨G, 0, none⟩), .pointer (some ⟨G, 0, none⟩), .slice (some ad) fs.length c, .int .i64 (i : Int), .pointer (some ((ad).add (i * 2))), .pointer (some (((ad).add (i * 2)).add 1)), .slice Af xs.length cf, .tuple [].toArray]) rfl ?_
    refine hK901906 _ _ ?_
    refine wp_ret ?_
    try simp only [Exit.inBlock, Exit.then]
    refine c_ret (.int .i64 0) (r_tmp rfl rfl) ?_
    exact ⟨_, _, rfl, (((HS.front 2 rfl).front 2 rfl).front 2 rfl)⟩

set_option maxRecDepth 10000 in
theorem nTwice_no (HS : St w0 F W (net G v fs L)) (i : Int) (hno : nTh fs i = false) : Calls Try.prog 27 #[.pointer (some ⟨G, 0, none⟩), .int .i64 i] W fun e w' => e = .returned (.int .i64 191) ∧ w' = W := by
  refine c_enter Try.func27 rfl 31 rfl [.pointer (some ⟨G, 0, none⟩), .int .i64 i, undef, undef, undef, undef, undef, undef, undef, undef, undef, undef, undef, undef, undef, undef, undef, undef, undef, undef, undef, undef, undef, undef, undef, undef, undef, undef, undef, undef, undef] rfl ?_
  refine wp_seq_k (fun K1 hK2 => ?_)
  refine c_region (fun ops4 hops3 => ?_)
  clear hops3
  refine p_run (l' := _) _ (x_assign (.int .i64 0) rfl rfl) rfl ?_
  refine wpList_nil ?_
  refine fr_at (l' := [.pointer (some ⟨G, 0, none⟩), .int .i64 i, undef, undef, .int .i64 0, undef, undef, undef, undef, undef, undef, undef, undef, undef, undef, undef, undef, undef, undef, undef, undef, undef, undef, undef, undef, undef, undef, undef, undef, undef, undef]) rfl ?_
  refine hK2 _ _ ?_
  refine wp_seq_k (fun K5 hK6 => ?_)
  refine wp_seq_k (fun K7 hK8 => ?_)
  refine c_region (fun ops10 hops9 => ?_)
  clear hops9
  refine p_run (l' := _) _ (x_move (.pointer (some ⟨G, 0, none⟩)) rfl rfl) rfl ?_
  refine p_run (l' := _) _ (x_nil rfl rfl) rfl ?_
  refine p_run (l' := _) _ (x_field (j := 0) _ _ rfl rfl Try.underlying72 rfl (by rfl) rfl) rfl ?_
  refine p_run (l' := [.pointer (some ⟨G, 0, none⟩), .int .i64 i, undef, undef, .int .i64 0, .pointer (some ⟨G, 0, none⟩), .pointer (some ⟨G, 0, none⟩), .pointer (some ⟨G, 0, none⟩), .int .i64 i, undef, undef, undef, undef, undef, undef, undef, undef, undef, undef, undef, undef, undef, undef, undef, undef, undef, undef, undef, undef, undef, undef]) _ (x_move (.int .i64 i) rfl rfl) rfl ?_
  refine w_call [.pointer (some ⟨G, 0, none⟩), .int .i64 i] Try.func42 (by kernel_rfl) (by rfl) rfl ?_
  replace HS := (((HS.front 2 rfl).front 2 rfl).front 2 rfl)
  refine (nThere_any HS _).mono ?_
  rintro e w' ⟨he_, rfl⟩
  rw [hno] at he_
  subst he_
  refine ⟨_, rfl, ?_⟩
  refine p_run (l' := _) _ (x_not false rfl rfl) rfl ?_
  refine wpList_nil ?_
  refine fr_at (l' := [.pointer (some ⟨G, 0, none⟩), .int .i64 i, undef, undef, .int .i64 0, .pointer (some ⟨G, 0, none⟩), .pointer (some ⟨G, 0, none⟩), .pointer (some ⟨G, 0, none⟩), .int .i64 i, .bool false, .bool true, undef, undef, undef, undef, undef, undef, undef, undef, undef, undef, undef, undef, undef, undef, undef, undef, undef, undef, undef, undef]) rfl ?_
  refine hK8 _ _ ?_
  refine c_true rfl ?_
  refine wp_seq_k (fun K11 hK12 => ?_)
  refine c_region (fun ops14 hops13 => ?_)
  clear hops13
  refine p_run (l' := _) _ (x_assign (.int .i64 191) rfl rfl) rfl ?_
  refine wpList_nil ?_
  refine fr_at (l' := [.pointer (some ⟨G, 0, none⟩), .int .i64 i, undef, undef, .int .i64 191, .pointer (some ⟨G, 0, none⟩), .pointer (some ⟨G, 0, none⟩), .pointer (some ⟨G, 0, none⟩), .int .i64 i, .bool false, .bool true, undef, undef, undef, undef, undef, undef, undef, undef, undef, undef, undef, undef, undef, undef, undef, undef, undef, undef, undef, undef]) rfl ?_
  refine hK12 _ _ ?_
  refine wp_ret ?_
  try simp only [Exit.inBlock, Exit.then]
  refine c_ret (.int .i64 191) (r_tmp rfl rfl) ?_
  exact ⟨rfl, rfl⟩
end
end Go.Proofs.Ytckfcnclekjjdaa
