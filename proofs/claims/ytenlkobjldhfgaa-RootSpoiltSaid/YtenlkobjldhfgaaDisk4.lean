/- Package disk: settle, Sync, Crash. -/
import Derived.Test.YtenlkobjldhfgaaDisk3
set_option linter.unusedVariables false
set_option linter.unusedSimpArgs false
namespace Go.Proofs.Ytenlkobjldhfgaa
open Go.RowKit Go.Proofs.YtenlkobjldhfgaaW.PrintWords Go.Proofs.YtenlkobjldhfgaaW.PrintLast
section
variable {w0 W : World} {F : Nat → Prop} {L : List Res} {D gs gm : Nat} {v : Value} {S : Dk}
theorem u8_bit {m : Int} (hm : 0 ≤ m ∧ m < 256) (q : Nat) : IntKind.wrap .u8 ((((m / 2 ^ q % 2 ^ 8).toNat &&& ((1 : Int) % 2 ^ 8).toNat : Nat)) : Int) = m / 2 ^ q % 2 := by
  have h1 : 0 ≤ m / 2 ^ q := Int.ediv_nonneg hm.1 (Int.pow_nonneg (by omega))
  have h2 : m / 2 ^ q ≤ m := Int.ediv_le_self _ hm.1
  generalize m / 2 ^ q = z at h1 h2
  have e1 : ((1 : Int) % 2 ^ 8).toNat = 1 := by decide
  have e2 : z % 2 ^ 8 = z := by omega
  rw [e1, e2, Nat.and_one_is_mod, IntKind.wrap_u8]
  omega
/-- The first q sectors of a page: those whose bits are set are the other page's. -/
def mixS (m : Int) (o x : List Int) : Nat → List Int
  | 0 => o
  | q + 1 => if m / 2 ^ q % 2 = 1 then (mixS m o x q).take (q * 32) ++ (x.drop (q * 32)).take 32 ++ (mixS m o x q).drop (q * 32 + 32) else mixS m o x q
theorem mixS_len {m : Int} {o x : List Int} (ho : o.length = 256) (hx : x.length = 256) : ∀ q, q ≤ 8 → (mixS m o x q).length = 256
  | 0, _ => ho
  | q + 1, hq => by
    have ih := mixS_len (m := m) ho hx q (by omega)
    unfold mixS
    split
    · simp [ih, hx]; omega
    · exact ih
/-- Writes settle, one behind the other. -/
def settleL (mask : Nat → Int) : Nat → List (Int × List Int) → List (List Int) → List (List Int)
  | _, [], T => T
  | k, x :: l, T => settleL mask (k + 1) l (T.set x.1.toNat (mixS (mask k) (T.getD x.1.toNat zpg) x.2 8))
def Dk.settle (S : Dk) (mask : Nat → Int) : Dk := { S with stable := settleL mask 0 S.pending S.stable, pending := [] }
theorem set_len {T : List (List Int)} {i : Nat} {p : List Int} (hT : ∀ p ∈ T, p.length = 256) (hp : p.length = 256) : ∀ q ∈ T.set i p, q.length = 256 := by
  intro q hq
  rcases List.mem_or_eq_of_mem_set hq with h | h
  · exact hT q h
  · rw [h]; exact hp
theorem mix_yes {T : List (List Int)} {i : Nat} {m : Int} {o x : List Int} {q : Nat} (hT : ∀ p ∈ T, p.length = 256) (ho : T[i]? = some o) (hx : x.length = 256) (hq : q < 8) (hb : m / 2 ^ q % 2 = 1) : lay (pgs (T.set i (mixS m o x q))) (i * 256 + q * 32) (nums .u8 ((x.drop (q * 32)).take 32)) = pgs (T.set i (mixS m o x (q + 1))) := by
  have hol := hT o (List.mem_of_getElem? ho)
  have hl := mixS_len (m := m) hol hx q (by omega)
  have hi := (List.getElem?_eq_some_iff.1 ho).1
  have hu : ((x.drop (q * 32)).take 32).length = 32 := by rw [List.length_take, List.length_drop]; omega
  rw [pgs_lay (T.set i (mixS m o x q)) i (mixS m o x q) (mixS m o x (q + 1)) (q * 32) _ (set_len hT hl) (by rw [List.getElem?_set_self hi]) (by omega) (by rw [hu]; conv => lhs; unfold mixS; rw [if_pos hb]), List.set_set]
theorem mix_no {m : Int} {o x : List Int} {q : Nat} (hb : ¬ m / 2 ^ q % 2 = 1) : mixS m o x (q + 1) = mixS m o x q := by
  conv => lhs; unfold mixS; rw [if_neg hb]
theorem mix_fit {T : List (List Int)} {i : Nat} {m : Int} {o x : List Int} {q : Nat} (hT : ∀ p ∈ T, p.length = 256) (ho : T[i]? = some o) (hx : x.length = 256) (hq : q < 8) : i * 256 + q * 32 + (nums .u8 ((x.drop (q * 32)).take 32)).length ≤ (pgs (T.set i (mixS m o x q))).length := by
  have hol := hT o (List.mem_of_getElem? ho)
  have hl := mixS_len (m := m) hol hx q (by omega)
  have hi := (List.getElem?_eq_some_iff.1 ho).1
  rw [pgs_length _ (set_len hT hl), nums_length, List.length_set, List.length_take]
  omega
theorem src_cut (a : Value) {p : List Int} {q : Nat} (hp : p.length = 256) (hq : q < 8) : (((a :: nums .u8 p : List Value)).drop (1 + q * 32)).take ((nums .u8 ((p.drop (q * 32)).take 32)).length) = nums .u8 ((p.drop (q * 32)).take 32) := by
  have e : 1 + q * 32 = q * 32 + 1 := by omega
  rw [e, List.drop_succ_cons, nums_length, List.length_take, List.length_drop, hp, show min 32 (256 - q * 32) = 32 by omega]
  simp only [nums, List.map_take, List.map_drop]
theorem set_same {T : List (List Int)} {i : Nat} {o : List Int} (ho : T[i]? = some o) : T.set i o = T := by
  obtain ⟨hi, rfl⟩ := List.getElem?_eq_some_iff.1 ho
  exact List.set_getElem_self hi
theorem settle_step {mask : Nat → Int} {k : Nat} {P : List (Int × List Int)} {x : Int × List Int} {T : List (List Int)} {o : List Int} (hk : k < P.length) (hx : P[k]? = some x) (ho : T[x.1.toNat]? = some o) : settleL mask k (P.drop k) T = settleL mask (k + 1) (P.drop (k + 1)) (T.set x.1.toNat (mixS (mask k) o x.2 8)) := by
  obtain ⟨_, rfl⟩ := List.getElem?_eq_some_iff.1 hx
  rw [List.drop_eq_getElem_cons hk]
  have e : T.getD P[k].1.toNat zpg = o := by rw [List.getD_eq_getElem?_getD, ho]; rfl
  conv => lhs; unfold settleL; rw [e]

set_option maxRecDepth 10000 in
set_option maxHeartbeats 2000000 in
theorem settle_any (HS : St w0 F W (dsk D gs gm v S L)) (hS : S.ok) (hpn : S.pending.length < 1000000) (mask : Nat → Int) (hm0 : ∀ k, 0 ≤ mask k ∧ mask k < 256) (f : FuncId) (fn : Func) (cap : List Value) (hff : Try.prog.funcs[f]? = some fn) (hnm : (fn.name == "runtime.NumGoroutine") = false) (hbd : fn.body.isSome = true) (hm : ∀ (k : Nat) (w : World) (X : List Res), k < S.pending.length → St w0 F w (X ++ L) → Calls Try.prog f ([Value.int .i64 (k : Int)] ++ cap).toArray w fun e w' => e = .returned (.int .u8 (mask k)) ∧ w' = w) : Calls Try.prog 35 #[.pointer (some ⟨D, 0, none⟩), .func (.func f) #[] cap.toArray] W fun e w' => ∃ v', e = .returned (.tuple #[]) ∧ St w0 F w' (dsk D gs gm v' (S.settle mask) L) := by
  obtain ⟨A, c, hv, hcap, -⟩ := row_reads (HS.get (.tail _ (.tail _ (.tail _ (.head _)))))
  subst hv
  · skip
    refine c_enter Try.func35 rfl 50 rfl [.pointer (some ⟨D, 0, none⟩), .func (.func f) #[] cap.toArray, undef, undef, undef, undef, undef, undef, undef, undef, undef, undef, undef, undef, undef, undef, undef, undef, undef, undef, undef, undef, undef, undef, undef, undef, undef, undef, undef, undef, undef, undef, undef, undef, undef, undef, undef, undef, undef, undef, undef, undef, undef, undef, undef, undef, undef, undef, undef, undef] rfl ?_
    refine wp_seq_k (fun K1 hK2 => ?_)
    refine wp_seq_k (fun K3 hK4 => ?_)
    refine c_region (fun ops6 hops5 => ?_)
    clear hops5
    refine p_run _ (x_move (.pointer (some ⟨D, 0, none⟩)) rfl rfl) rfl ?_
    refine p_run _ (x_nil rfl rfl) rfl ?_
    refine p_run _ (x_field (j := 2) _ _ rfl rfl Try.underlying72 rfl (by rfl) rfl) rfl ?_
    refine p_run (l' := [.pointer (some ⟨D, 0, none⟩), .func (.func f) #[] cap.toArray, undef, undef, undef, undef, undef, .pointer (some ⟨D, 0, none⟩), .pointer (some ⟨D, 0, none⟩), .pointer (some ⟨D, 2, none⟩), .slice A S.pending.length c, undef, undef, undef, undef, undef, undef, undef, undef, undef, undef, undef, undef, undef, undef, undef, undef, undef, undef, undef, undef, undef, undef, undef, undef, undef, undef, undef, undef, undef, undef, undef, undef, undef, undef, undef, undef, undef, undef, undef]) _ (x_load (.slice A S.pending.length c) rfl rfl (bkCell (HS.get (.head _)) 2 _ rfl) (by rfl)) rfl ?_
    refine p_run _ (x_len rfl rfl Try.underlying70) rfl ?_
    refine p_run _ (x_move (.int .i64 0) rfl rfl) rfl ?_
    refine wpList_nil ?_
    refine fr_at (l' := [.pointer (some ⟨D, 0, none⟩), .func (.func f) #[] cap.toArray, undef, undef, undef, undef, undef, .pointer (some ⟨D, 0, none⟩), .pointer (some ⟨D, 0, none⟩), .pointer (some ⟨D, 2, none⟩), .slice A S.pending.length c, .int .i64 (S.pending.length : Int), .int .i64 0, undef, undef, undef, undef, undef, undef, undef, undef, undef, undef, undef, undef, undef, undef, undef, undef, undef, undef, undef, undef, undef, undef, undef, undef, undef, undef, undef, undef, undef, undef, undef, undef, undef, undef, undef, undef, undef]) rfl ?_
    refine hK4 _ _ ?_
    refine wp_block ?_
    refine c_loop (ι := Nat × List (List Int)) (fun i_ a_ w_ => match i_ with | (k, T) => ∃ (uq7 : Value × Value × Value × Value × Value × Value) (uq8 : Value × Value × Value × Value × Value × Value) (uq9 : Value × Value × Value × Value × Value × Value) (uq10 : Value × Value × Value × Value × Value × Value) (uq11 : Value × Value × Value × Value × Value × Value) (uq12 : Value × Value × Value × Value × Value × Value) (uq13 : Value), a_ = fr [.pointer (some ⟨D, 0, none⟩), .func (.func f) #[] cap.toArray, undef, undef, uq7.1, uq7.2.1, uq7.2.2.1, .pointer (some ⟨D, 0, none⟩), .pointer (some ⟨D, 0, none⟩), .pointer (some ⟨D, 2, none⟩), .slice A S.pending.length c, .int .i64 (S.pending.length : Int), .int .i64 (k : Int), uq7.2.2.2.1, uq7.2.2.2.2.1, uq7.2.2.2.2.2, uq8.1, uq8.2.1, uq8.2.2.1, uq8.2.2.2.1, uq8.2.2.2.2.1, uq8.2.2.2.2.2, uq9.1, uq9.2.1, uq9.2.2.1, uq9.2.2.2.1, uq9.2.2.2.2.1, uq9.2.2.2.2.2, uq10.1, uq10.2.1, uq10.2.2.1, uq10.2.2.2.1, uq10.2.2.2.2.1, uq10.2.2.2.2.2, uq11.1, uq11.2.1, uq11.2.2.1, uq11.2.2.2.1, uq11.2.2.2.2.1, uq11.2.2.2.2.2, uq12.1, uq12.2.1, uq12.2.2.1, uq12.2.2.2.1, uq12.2.2.2.2.1, uq12.2.2.2.2.2, uq13, undef, undef, undef] ∧ St w0 F w_ (blk D [.slice (some ⟨gs, 0, none⟩) S.stable.length S.stable.length, .map (some gm), .slice A S.pending.length c, .int .i64 S.left, .bool S.down] 72 :: blk gs (pgs T) 38 :: mapR gm S.cnt S.bad :: row kWr rfl 78 (.slice A S.pending.length c) S.pending :: L) ∧ (settleL mask k (S.pending.drop k) T = settleL mask 0 S.pending S.stable ∧ (∀ p ∈ T, p.length = 256) ∧ T.length = S.stable.length)) (fun i_ => match i_ with | (k, T) => S.pending.length - k) (0, S.stable) ?_ ?_
    · exact ⟨(undef, undef, undef, undef, undef, undef), (undef, undef, undef, undef, undef, undef), (undef, undef, undef, undef, undef, undef), (undef, undef, undef, undef, undef, undef), (undef, undef, undef, undef, undef, undef), (undef, undef, undef, undef, undef, undef), undef, rfl, ((((HS.front 3 rfl).front 3 rfl).front 3 rfl).front 3 rfl), ⟨rfl, hS.1, rfl⟩⟩
    · clear HS
      rintro ⟨k, T⟩ a_ w16 ⟨uq7, uq8, uq9, uq10, uq11, uq12, uq13, rfl, HS, hI⟩ J14 hJ15
      refine wp_seq_k (fun K17 hK18 => ?_)
      refine c_region (fun ops20 hops19 => ?_)
      clear hops19
      refine p_run _ (x_cmp (k := .i64) (m := (k : Int)) (n := (S.pending.length : Int)) .lss (decide ((k : Int) < (S.pending.length : Int))) rfl rfl rfl rfl rfl) rfl ?_
      refine wpList_nil ?_
      refine fr_at (l' := [.pointer (some ⟨D, 0, none⟩), .func (.func f) #[] cap.toArray, undef, undef, uq7.1, uq7.2.1, uq7.2.2.1, .pointer (some ⟨D, 0, none⟩), .pointer (some ⟨D, 0, none⟩), .pointer (some ⟨D, 2, none⟩), .slice A S.pending.length c, .int .i64 (S.pending.length : Int), .int .i64 (k : Int), .bool (decide ((k : Int) < (S.pending.length : Int))), uq7.2.2.2.2.1, uq7.2.2.2.2.2, uq8.1, uq8.2.1, uq8.2.2.1, uq8.2.2.2.1, uq8.2.2.2.2.1, uq8.2.2.2.2.2, uq9.1, uq9.2.1, uq9.2.2.1, uq9.2.2.2.1, uq9.2.2.2.2.1, uq9.2.2.2.2.2, uq10.1, uq10.2.1, uq10.2.2.1, uq10.2.2.2.1, uq10.2.2.2.2.1, uq10.2.2.2.2.2, uq11.1, uq11.2.1, uq11.2.2.1, uq11.2.2.2.1, uq11.2.2.2.2.1, uq11.2.2.2.2.2, uq12.1, uq12.2.1, uq12.2.2.1, uq12.2.2.2.1, uq12.2.2.2.2.1, uq12.2.2.2.2.2, uq13, undef, undef, undef]) rfl ?_
      refine hK18 _ _ ?_
      refine wp_seq_k (fun K21 hK22 => ?_)
      refine c_cond (t := decide ((k : Int) < (S.pending.length : Int))) rfl (fun hc23 => ?_) (fun hc23 => ?_)
      · have hlt : k < S.pending.length := by have := of_decide_eq_true hc23; omega
        have hC := (row_C (HS.get (.tail _ (.tail _ (.tail _ (.head _)))))).2.2
        obtain ⟨ad, x, rfl, hx, hx2, hcell⟩ := wr_get hC k hlt
        obtain ⟨hI1, hT, hTl⟩ := hI
        have hpx := hS.2.2.2.2 x (List.mem_of_getElem? hx)
        obtain ⟨o, ho⟩ : ∃ o, T[x.1.toNat]? = some o := ⟨_, List.getElem?_eq_getElem (by omega)⟩
        have hol := hT o (List.mem_of_getElem? ho)
        rw [settle_step hlt hx ho] at hI1
        refine wp_skip ?_
        refine hK22 _ _ ?_
        refine wp_seq_k (fun K24 hK25 => ?_)
        refine wp_block ?_
        refine wp_seq_k (fun K26 hK27 => ?_)
        refine c_region (fun ops29 hops28 => ?_)
        clear hops28
        refine p_run _ (x_move (.int .i64 (k : Int)) rfl rfl) rfl ?_
        refine p_run _ (x_index (A := ad) (j := k * 257) (sz := 257) rfl rfl rfl Try.underlying70 (by kernel_rfl) (by omega) rfl) rfl ?_
        refine p_run _ (x_loads (Value.int .i64 x.1 :: (nums .u8 x.2)) 257 rfl rfl hcell (by rfl) (by kernel_rfl) (by simp [hx2, nums_length])) rfl ?_
        refine St.wAlloc HS (cs := (Value.int .i64 0 :: (nums .u8 zpg))) (.agg (Value.int .i64 0 :: (nums .u8 zpg)).toArray) (by kernel_rfl) rfl ?_
        clear HS
        intro g30 w31 hg32 HS
        refine fr_to (l' := [.pointer (some ⟨D, 0, none⟩), .func (.func f) #[] cap.toArray, undef, undef, uq7.1, .pointer (some ⟨g30, 0, none⟩), uq7.2.2.1, .pointer (some ⟨D, 0, none⟩), .pointer (some ⟨D, 0, none⟩), .pointer (some ⟨D, 2, none⟩), .slice (some ad) S.pending.length c, .int .i64 (S.pending.length : Int), .int .i64 (k : Int), .bool (decide ((k : Int) < (S.pending.length : Int))), .int .i64 (k : Int), .pointer (some ((ad).add (k * 257))), .agg (Value.int .i64 x.1 :: (nums .u8 x.2)).toArray, uq8.2.1, uq8.2.2.1, uq8.2.2.2.1, uq8.2.2.2.2.1, uq8.2.2.2.2.2, uq9.1, uq9.2.1, uq9.2.2.1, uq9.2.2.2.1, uq9.2.2.2.2.1, uq9.2.2.2.2.2, uq10.1, uq10.2.1, uq10.2.2.1, uq10.2.2.2.1, uq10.2.2.2.2.1, uq10.2.2.2.2.2, uq11.1, uq11.2.1, uq11.2.2.1, uq11.2.2.2.1, uq11.2.2.2.2.1, uq11.2.2.2.2.2, uq12.1, uq12.2.1, uq12.2.2.1, uq12.2.2.2.1, uq12.2.2.2.2.1, uq12.2.2.2.2.2, uq13, undef, undef, undef]) rfl ?_
        refine p_run _ (x_assign (.int .i64 (k : Int)) rfl rfl) rfl ?_
        refine St.stores (cs' := (Value.int .i64 x.1 :: (nums .u8 x.2))) HS (Value.int .i64 x.1 :: (nums .u8 x.2)) 257 rfl rfl (all1 rfl (nums_one _ _)) (by kernel_rfl) (by simp [hx2, nums_length]) (by simp [hx2, nums_length, zlen]) (lay_all _ _ (by simp [hx2, nums_length, zlen])) ?_
        clear HS
        intro w33 HS
        refine wpList_nil ?_
        refine fr_at (l' := [.pointer (some ⟨D, 0, none⟩), .func (.func f) #[] cap.toArray, undef, undef, .int .i64 (k : Int), .pointer (some ⟨g30, 0, none⟩), uq7.2.2.1, .pointer (some ⟨D, 0, none⟩), .pointer (some ⟨D, 0, none⟩), .pointer (some ⟨D, 2, none⟩), .slice (some ad) S.pending.length c, .int .i64 (S.pending.length : Int), .int .i64 (k : Int), .bool (decide ((k : Int) < (S.pending.length : Int))), .int .i64 (k : Int), .pointer (some ((ad).add (k * 257))), .agg (Value.int .i64 x.1 :: (nums .u8 x.2)).toArray, uq8.2.1, uq8.2.2.1, uq8.2.2.2.1, uq8.2.2.2.2.1, uq8.2.2.2.2.2, uq9.1, uq9.2.1, uq9.2.2.1, uq9.2.2.2.1, uq9.2.2.2.2.1, uq9.2.2.2.2.2, uq10.1, uq10.2.1, uq10.2.2.1, uq10.2.2.2.1, uq10.2.2.2.2.1, uq10.2.2.2.2.2, uq11.1, uq11.2.1, uq11.2.2.1, uq11.2.2.2.1, uq11.2.2.2.2.1, uq11.2.2.2.2.2, uq12.1, uq12.2.1, uq12.2.2.1, uq12.2.2.2.1, uq12.2.2.2.2.1, uq12.2.2.2.2.2, uq13, undef, undef, undef]) rfl ?_
        refine hK27 _ _ ?_
        refine wp_seq_k (fun K34 hK35 => ?_)
        refine c_region (fun ops37 hops36 => ?_)
        clear hops36
        refine p_run _ (x_move (.int .i64 0) rfl rfl) rfl ?_
        refine wpList_nil ?_
        refine fr_at (l' := [.pointer (some ⟨D, 0, none⟩), .func (.func f) #[] cap.toArray, undef, undef, .int .i64 (k : Int), .pointer (some ⟨g30, 0, none⟩), uq7.2.2.1, .pointer (some ⟨D, 0, none⟩), .pointer (some ⟨D, 0, none⟩), .pointer (some ⟨D, 2, none⟩), .slice (some ad) S.pending.length c, .int .i64 (S.pending.length : Int), .int .i64 (k : Int), .bool (decide ((k : Int) < (S.pending.length : Int))), .int .i64 (k : Int), .pointer (some ((ad).add (k * 257))), .agg (Value.int .i64 x.1 :: (nums .u8 x.2)).toArray, .int .i64 0, uq8.2.2.1, uq8.2.2.2.1, uq8.2.2.2.2.1, uq8.2.2.2.2.2, uq9.1, uq9.2.1, uq9.2.2.1, uq9.2.2.2.1, uq9.2.2.2.2.1, uq9.2.2.2.2.2, uq10.1, uq10.2.1, uq10.2.2.1, uq10.2.2.2.1, uq10.2.2.2.2.1, uq10.2.2.2.2.2, uq11.1, uq11.2.1, uq11.2.2.1, uq11.2.2.2.1, uq11.2.2.2.2.1, uq11.2.2.2.2.2, uq12.1, uq12.2.1, uq12.2.2.1, uq12.2.2.2.1, uq12.2.2.2.2.1, uq12.2.2.2.2.2, uq13, undef, undef, undef]) rfl ?_
        refine hK35 _ _ ?_
        refine wp_block ?_
        refine c_loop (ι := Nat) (fun i_ a_ w_ => match i_ with | q => ∃ (uq38 : Value × Value × Value × Value × Value × Value) (uq39 : Value × Value × Value × Value × Value × Value) (uq40 : Value × Value × Value × Value × Value × Value) (uq41 : Value × Value × Value × Value × Value × Value) (uq42 : Value × Value × Value × Value × Value), a_ = fr [.pointer (some ⟨D, 0, none⟩), .func (.func f) #[] cap.toArray, undef, undef, .int .i64 (k : Int), .pointer (some ⟨g30, 0, none⟩), uq38.1, .pointer (some ⟨D, 0, none⟩), .pointer (some ⟨D, 0, none⟩), .pointer (some ⟨D, 2, none⟩), .slice (some ad) S.pending.length c, .int .i64 (S.pending.length : Int), .int .i64 (k : Int), .bool (decide ((k : Int) < (S.pending.length : Int))), .int .i64 (k : Int), .pointer (some ((ad).add (k * 257))), .agg (Value.int .i64 x.1 :: (nums .u8 x.2)).toArray, .int .i64 (q : Int), uq38.2.1, uq38.2.2.1, uq38.2.2.2.1, uq38.2.2.2.2.1, uq38.2.2.2.2.2, uq39.1, uq39.2.1, uq39.2.2.1, uq39.2.2.2.1, uq39.2.2.2.2.1, uq39.2.2.2.2.2, uq40.1, uq40.2.1, uq40.2.2.1, uq40.2.2.2.1, uq40.2.2.2.2.1, uq40.2.2.2.2.2, uq41.1, uq41.2.1, uq41.2.2.1, uq41.2.2.2.1, uq41.2.2.2.2.1, uq41.2.2.2.2.2, uq42.1, uq42.2.1, uq42.2.2.1, uq42.2.2.2.1, uq42.2.2.2.2, uq13, undef, undef, undef] ∧ St w0 F w_ (blk g30 (Value.int .i64 x.1 :: (nums .u8 x.2)) 78 :: blk D [.slice (some ⟨gs, 0, none⟩) S.stable.length S.stable.length, .map (some gm), .slice (some ad) S.pending.length c, .int .i64 S.left, .bool S.down] 72 :: blk gs (pgs (T.set x.1.toNat (mixS (mask k) o x.2 q))) 38 :: mapR gm S.cnt S.bad :: row kWr rfl 78 (.slice (some ad) S.pending.length c) S.pending :: L) ∧ (q ≤ 8)) (fun i_ => match i_ with | q => 8 - q) 0 ?_ ?_
        · exact ⟨(uq7.2.2.1, uq8.2.2.1, uq8.2.2.2.1, uq8.2.2.2.2.1, uq8.2.2.2.2.2, uq9.1), (uq9.2.1, uq9.2.2.1, uq9.2.2.2.1, uq9.2.2.2.2.1, uq9.2.2.2.2.2, uq10.1), (uq10.2.1, uq10.2.2.1, uq10.2.2.2.1, uq10.2.2.2.2.1, uq10.2.2.2.2.2, uq11.1), (uq11.2.1, uq11.2.2.1, uq11.2.2.2.1, uq11.2.2.2.2.1, uq11.2.2.2.2.2, uq12.1), (uq12.2.1, uq12.2.2.1, uq12.2.2.2.1, uq12.2.2.2.2.1, uq12.2.2.2.2.2), rfl, (by rw [show T.set x.1.toNat (mixS (mask k) o x.2 0) = T from set_same ho]; exact HS), (by omega)⟩
        · clear HS
          rintro q a_ w45 ⟨uq38, uq39, uq40, uq41, uq42, rfl, HS, hI⟩ J43 hJ44
          refine wp_seq_k (fun K46 hK47 => ?_)
          refine c_region (fun ops49 hops48 => ?_)
          clear hops48
          refine p_run _ (x_cmp (k := .i64) (m := (q : Int)) (n := 8) .lss (decide ((q : Int) < 8)) rfl rfl rfl rfl rfl) rfl ?_
          refine wpList_nil ?_
          refine fr_at (l' := [.pointer (some ⟨D, 0, none⟩), .func (.func f) #[] cap.toArray, undef, undef, .int .i64 (k : Int), .pointer (some ⟨g30, 0, none⟩), uq38.1, .pointer (some ⟨D, 0, none⟩), .pointer (some ⟨D, 0, none⟩), .pointer (some ⟨D, 2, none⟩), .slice (some ad) S.pending.length c, .int .i64 (S.pending.length : Int), .int .i64 (k : Int), .bool (decide ((k : Int) < (S.pending.length : Int))), .int .i64 (k : Int), .pointer (some ((ad).add (k * 257))), .agg (Value.int .i64 x.1 :: (nums .u8 x.2)).toArray, .int .i64 (q : Int), .bool (decide ((q : Int) < 8)), uq38.2.2.1, uq38.2.2.2.1, uq38.2.2.2.2.1, uq38.2.2.2.2.2, uq39.1, uq39.2.1, uq39.2.2.1, uq39.2.2.2.1, uq39.2.2.2.2.1, uq39.2.2.2.2.2, uq40.1, uq40.2.1, uq40.2.2.1, uq40.2.2.2.1, uq40.2.2.2.2.1, uq40.2.2.2.2.2, uq41.1, uq41.2.1, uq41.2.2.1, uq41.2.2.2.1, uq41.2.2.2.2.1, uq41.2.2.2.2.2, uq42.1, uq42.2.1, uq42.2.2.1, uq42.2.2.2.1, uq42.2.2.2.2, uq13, undef, undef, undef]) rfl ?_
          refine hK47 _ _ ?_
          refine wp_seq_k (fun K50 hK51 => ?_)
          refine c_cond (t := decide ((q : Int) < 8)) rfl (fun hc52 => ?_) (fun hc52 => ?_)
          · have hq : q < 8 := by have := of_decide_eq_true hc52; omega
            refine wp_skip ?_
            refine hK51 _ _ ?_
            refine wp_seq_k (fun K53 hK54 => ?_)
            refine wp_block ?_
            refine wp_seq_k (fun K55 hK56 => ?_)
            refine c_region (fun ops58 hops57 => ?_)
            clear hops57
            refine p_run _ (x_move (.int .i64 (q : Int)) rfl rfl) rfl ?_
            refine p_run _ (x_assign (.int .i64 (q : Int)) rfl rfl) rfl ?_
            refine wpList_nil ?_
            refine fr_at (l' := [.pointer (some ⟨D, 0, none⟩), .func (.func f) #[] cap.toArray, undef, undef, .int .i64 (k : Int), .pointer (some ⟨g30, 0, none⟩), .int .i64 (q : Int), .pointer (some ⟨D, 0, none⟩), .pointer (some ⟨D, 0, none⟩), .pointer (some ⟨D, 2, none⟩), .slice (some ad) S.pending.length c, .int .i64 (S.pending.length : Int), .int .i64 (k : Int), .bool (decide ((k : Int) < (S.pending.length : Int))), .int .i64 (k : Int), .pointer (some ((ad).add (k * 257))), .agg (Value.int .i64 x.1 :: (nums .u8 x.2)).toArray, .int .i64 (q : Int), .bool (decide ((q : Int) < 8)), .int .i64 (q : Int), uq38.2.2.2.1, uq38.2.2.2.2.1, uq38.2.2.2.2.2, uq39.1, uq39.2.1, uq39.2.2.1, uq39.2.2.2.1, uq39.2.2.2.2.1, uq39.2.2.2.2.2, uq40.1, uq40.2.1, uq40.2.2.1, uq40.2.2.2.1, uq40.2.2.2.2.1, uq40.2.2.2.2.2, uq41.1, uq41.2.1, uq41.2.2.1, uq41.2.2.2.1, uq41.2.2.2.2.1, uq41.2.2.2.2.2, uq42.1, uq42.2.1, uq42.2.2.1, uq42.2.2.2.1, uq42.2.2.2.2, uq13, undef, undef, undef]) rfl ?_
            refine hK56 _ _ ?_
            refine wp_seq_k (fun K59 hK60 => ?_)
            refine c_region (fun ops62 hops61 => ?_)
            clear hops61
            refine p_run _ (x_move (.func (.func f) #[] cap.toArray) rfl rfl) rfl ?_
            refine p_run _ (x_move (.int .i64 (k : Int)) rfl rfl) rfl ?_
            refine w_callv [.int .i64 (k : Int)] cap rfl hff hnm hbd rfl ?_
            refine (hm k _ [blk g30 (Value.int .i64 x.1 :: (nums .u8 x.2)) 78, blk D [.slice (some ⟨gs, 0, none⟩) S.stable.length S.stable.length, .map (some gm), .slice (some ad) S.pending.length c, .int .i64 S.left, .bool S.down] 72, blk gs (pgs (T.set x.1.toNat (mixS (mask k) o x.2 q))) 38, mapR gm S.cnt S.bad, row kWr rfl 78 (.slice (some ad) S.pending.length c) S.pending] hlt HS).mono ?_
            rintro e w' ⟨rfl, rfl⟩
            refine ⟨_, rfl, ?_⟩
            refine p_run (l' := [.pointer (some ⟨D, 0, none⟩), .func (.func f) #[] cap.toArray, undef, undef, .int .i64 (k : Int), .pointer (some ⟨g30, 0, none⟩), .int .i64 (q : Int), .pointer (some ⟨D, 0, none⟩), .pointer (some ⟨D, 0, none⟩), .pointer (some ⟨D, 2, none⟩), .slice (some ad) S.pending.length c, .int .i64 (S.pending.length : Int), .int .i64 (k : Int), .bool (decide ((k : Int) < (S.pending.length : Int))), .int .i64 (k : Int), .pointer (some ((ad).add (k * 257))), .agg (Value.int .i64 x.1 :: (nums .u8 x.2)).toArray, .int .i64 (q : Int), .bool (decide ((q : Int) < 8)), .int .i64 (q : Int), .func (.func f) #[] cap.toArray, .int .i64 (k : Int), .int .u8 (mask k), .int .i64 (q : Int), uq39.2.1, uq39.2.2.1, uq39.2.2.2.1, uq39.2.2.2.2.1, uq39.2.2.2.2.2, uq40.1, uq40.2.1, uq40.2.2.1, uq40.2.2.2.1, uq40.2.2.2.2.1, uq40.2.2.2.2.2, uq41.1, uq41.2.1, uq41.2.2.1, uq41.2.2.2.1, uq41.2.2.2.2.1, uq41.2.2.2.2.2, uq42.1, uq42.2.1, uq42.2.2.1, uq42.2.2.2.1, uq42.2.2.2.2, uq13, undef, undef, undef]) _ (x_move (.int .i64 (q : Int)) rfl rfl) rfl ?_
            refine p_run _ (x_shr (k := .u8) (m := (mask k)) (n := (q : Int)) (mask k / 2 ^ q) rfl rfl rfl (by omega) (by rw [show min ((q : Int)).toNat (IntKind.bits .u8) = q from by simp [IntKind.bits]; omega])) rfl ?_
            refine p_run _ (x_and (k := .u8) (m := mask k / 2 ^ q) (n := 1) (mask k / 2 ^ q % 2) rfl rfl rfl (u8_bit (hm0 k) q)) rfl ?_
            refine p_run _ (x_cmp (k := .u8) (m := mask k / 2 ^ q % 2) (n := 1) .eql ((mask k / 2 ^ q % 2) == 1) rfl rfl rfl rfl rfl) rfl ?_
            refine wpList_nil ?_
            refine fr_at (l' := [.pointer (some ⟨D, 0, none⟩), .func (.func f) #[] cap.toArray, undef, undef, .int .i64 (k : Int), .pointer (some ⟨g30, 0, none⟩), .int .i64 (q : Int), .pointer (some ⟨D, 0, none⟩), .pointer (some ⟨D, 0, none⟩), .pointer (some ⟨D, 2, none⟩), .slice (some ad) S.pending.length c, .int .i64 (S.pending.length : Int), .int .i64 (k : Int), .bool (decide ((k : Int) < (S.pending.length : Int))), .int .i64 (k : Int), .pointer (some ((ad).add (k * 257))), .agg (Value.int .i64 x.1 :: (nums .u8 x.2)).toArray, .int .i64 (q : Int), .bool (decide ((q : Int) < 8)), .int .i64 (q : Int), .func (.func f) #[] cap.toArray, .int .i64 (k : Int), .int .u8 (mask k), .int .i64 (q : Int), .int .u8 (mask k / 2 ^ q), .int .u8 (mask k / 2 ^ q % 2), .bool ((mask k / 2 ^ q % 2) == 1), uq39.2.2.2.2.1, uq39.2.2.2.2.2, uq40.1, uq40.2.1, uq40.2.2.1, uq40.2.2.2.1, uq40.2.2.2.2.1, uq40.2.2.2.2.2, uq41.1, uq41.2.1, uq41.2.2.1, uq41.2.2.2.1, uq41.2.2.2.2.1, uq41.2.2.2.2.2, uq42.1, uq42.2.1, uq42.2.2.1, uq42.2.2.2.1, uq42.2.2.2.2, uq13, undef, undef, undef]) rfl ?_
            refine hK60 _ _ ?_
            refine c_cond (t := ((mask k / 2 ^ q % 2) == 1)) rfl (fun hc63 => ?_) (fun hc63 => ?_)
            · have hbit : mask k / 2 ^ q % 2 = 1 := by simpa using hc63
              refine free_frame (n := 18) (T := _) [0, 1, 3, 7, 0, 16, 63, 0, 128, 0, 512, 1536, 4095, 0, 0, 16384, 57344, 131071] [(0, 27), (1, 28), (2, 29), (3, 30), (4, 31), (5, 32), (6, 33), (7, 34), (8, 35), (9, 36), (10, 37), (11, 38), (12, 39), (13, 40), (14, 41), (15, 42), (16, 43), (17, 44)] (fun bq_ vq_ w_ => qv ((fun i_ => match i_ with | 0 => some (.pointer (some ⟨D, 0, none⟩)) | 1 => some (.pointer (some ⟨D, 0, none⟩)) | 2 => some (.pointer (some ⟨D, 0, none⟩)) | 3 => some (.slice (some ⟨gs, 0, none⟩) S.stable.length S.stable.length) | 4 => some (.pointer (some ⟨g30, 0, none⟩)) | 5 => some (.int .i64 x.1) | 6 => some (.pointer (some ⟨gs, (x.1).toNat * 256, none⟩)) | 7 => some (.int .i64 (q : Int)) | 8 => some (.int .i64 ((q * 32 : Nat) : Int)) | 9 => some (.int .i64 (q : Int)) | 10 => some (.int .i64 ((q + 1 : Nat) : Int)) | 11 => some (.int .i64 (((q + 1) * 32 : Nat) : Int)) | 12 => some (.slice (some ⟨gs, (x.1).toNat * 256 + (q * 32 : Nat), none⟩) 32 (256 - q * 32)) | 13 => some (.pointer (some ⟨g30, 1, none⟩)) | 14 => some (.int .i64 (q : Int)) | 15 => some (.int .i64 ((q * 32 : Nat) : Int)) | 16 => some (.slice (some ⟨g30, 1 + (q * 32 : Nat), none⟩) (256 - q * 32) (256 - q * 32)) | _ => none) : Nat → Option Value) bq_ vq_ ∧ cond (bq_ 17) (vq_ 17 = .int .i64 ((nums .u8 ((x.2.drop (q * 32)).take 32)).length : Int) ∧ St w0 F w_ (blk gs (pgs (T.set x.1.toNat (mixS (mask k) o x.2 (q + 1)))) 38 :: blk g30 (Value.int .i64 x.1 :: (nums .u8 x.2)) 78 :: blk D [.slice (some ⟨gs, 0, none⟩) S.stable.length S.stable.length, .map (some gm), .slice (some ad) S.pending.length c, .int .i64 S.left, .bool S.down] 72 :: mapR gm S.cnt S.bad :: row kWr rfl 78 (.slice (some ad) S.pending.length c) S.pending :: L)) ((St w0 F w_ (blk g30 (Value.int .i64 x.1 :: (nums .u8 x.2)) 78 :: blk D [.slice (some ⟨gs, 0, none⟩) S.stable.length S.stable.length, .map (some gm), .slice (some ad) S.pending.length c, .int .i64 S.left, .bool S.down] 72 :: blk gs (pgs (T.set x.1.toNat (mixS (mask k) o x.2 q))) 38 :: mapR gm S.cnt S.bad :: row kWr rfl 78 (.slice (some ad) S.pending.length c) S.pending :: L)))) (by kernel_rfl) rfl rfl (by kernel_rfl) (by kernel_rfl) rfl (by kernel_rfl) (by kernel_rfl) ⟨qv_none, HS.draw⟩ ?_ ?_
              · clear HS
                intro i_ hi_ bq_ vq_ a_ w_ hG hb_ hon hoff hfr hel hval
                obtain ⟨hV, hE⟩ := hG
                have hi_ := List.mem_range.1 hi_
                have hcs : i_ = 0 ∨ i_ = 1 ∨ i_ = 2 ∨ i_ = 3 ∨ i_ = 4 ∨ i_ = 5 ∨ i_ = 6 ∨ i_ = 7 ∨ i_ = 8 ∨ i_ = 9 ∨ i_ = 10 ∨ i_ = 11 ∨ i_ = 12 ∨ i_ = 13 ∨ i_ = 14 ∨ i_ = 15 ∨ i_ = 16 ∨ i_ = 17 := by omega
                rcases hcs with rfl | rfl | rfl | rfl | rfl | rfl | rfl | rfl | rfl | rfl | rfl | rfl | rfl | rfl | rfl | rfl | rfl | rfl
                · have h0 : a_.tmps[0]? = some (.pointer (some ⟨D, 0, none⟩)) := (hel 0 (by decide)).trans rfl
                  obtain ⟨l_, rfl⟩ := hfr
                  have e0 : evl l_ (.tmp 0) = .pointer (some ⟨D, 0, none⟩) := evl_of h0
                  refine ⟨_, rfl, fun K_ hK_ => wp_of_list rfl ?_⟩
                  intro ops_
                  refine p_run _ (x_move (.pointer (some ⟨D, 0, none⟩)) rfl e0) rfl ?_
                  refine wpList_nil ?_
                  exact norm_put (hK_ (.pointer (some ⟨D, 0, none⟩)) _ ⟨qv_up hV (fun _ h => Option.some.inj h), hE⟩)
                · have h27 : a_.tmps[27]? = some (.pointer (some ⟨D, 0, none⟩)) := (hval (0, 27) (by decide) (hon 0 (by decide))).trans (congrArg some (hV 0 _ rfl (hon 0 (by decide))))
                  obtain ⟨l_, rfl⟩ := hfr
                  have e27 : evl l_ (.tmp 27) = .pointer (some ⟨D, 0, none⟩) := evl_of h27
                  refine ⟨_, rfl, fun K_ hK_ => wp_of_list rfl ?_⟩
                  intro ops_
                  refine p_run _ (x_nil rfl e27) rfl ?_
                  refine wpList_nil ?_
                  exact norm_put (hK_ (.pointer (some ⟨D, 0, none⟩)) _ ⟨qv_up hV (fun _ h => Option.some.inj h), hE⟩)
                · have h28 : a_.tmps[28]? = some (.pointer (some ⟨D, 0, none⟩)) := (hval (1, 28) (by decide) (hon 1 (by decide))).trans (congrArg some (hV 1 _ rfl (hon 1 (by decide))))
                  obtain ⟨l_, rfl⟩ := hfr
                  have e28 : evl l_ (.tmp 28) = .pointer (some ⟨D, 0, none⟩) := evl_of h28
                  refine ⟨_, rfl, fun K_ hK_ => wp_of_list rfl ?_⟩
                  intro ops_
                  refine p_run _ (x_field (j := 0) _ _ rfl e28 Try.underlying72 rfl (by rfl) rfl) rfl ?_
                  refine wpList_nil ?_
                  exact norm_put (hK_ (.pointer (some ⟨D, 0, none⟩)) _ ⟨qv_up hV (fun _ h => Option.some.inj h), hE⟩)
                · have h29 : a_.tmps[29]? = some (.pointer (some ⟨D, 0, none⟩)) := (hval (2, 29) (by decide) (hon 2 (by decide))).trans (congrArg some (hV 2 _ rfl (hon 2 (by decide))))
                  obtain ⟨l_, rfl⟩ := hfr
                  have hE0 := hE
                  rw [show bq_ 17 = false from (hoff 17 (by decide))] at hE0
                  simp only [cond_true, cond_false] at hE0
                  have HS := hE0
                  have e29 : evl l_ (.tmp 29) = .pointer (some ⟨D, 0, none⟩) := evl_of h29
                  refine ⟨_, rfl, fun K_ hK_ => wp_of_list rfl ?_⟩
                  intro ops_
                  refine p_run _ (x_load (.slice (some ⟨gs, 0, none⟩) S.stable.length S.stable.length) rfl e29 (bkCell (HS.get (.tail _ (.head _))) 0 _ rfl) (by rfl)) rfl ?_
                  refine wpList_nil ?_
                  exact norm_put (hK_ (.slice (some ⟨gs, 0, none⟩) S.stable.length S.stable.length) _ ⟨qv_up hV (fun _ h => Option.some.inj h), hE⟩)
                · have h5 : a_.tmps[5]? = some (.pointer (some ⟨g30, 0, none⟩)) := (hel 5 (by decide)).trans rfl
                  obtain ⟨l_, rfl⟩ := hfr
                  have e5 : evl l_ (.tmp 5) = .pointer (some ⟨g30, 0, none⟩) := evl_of h5
                  refine ⟨_, rfl, fun K_ hK_ => wp_of_list rfl ?_⟩
                  intro ops_
                  refine p_run _ (x_field (j := 0) _ _ rfl e5 Try.underlying78 rfl (by rfl) rfl) rfl ?_
                  refine wpList_nil ?_
                  exact norm_put (hK_ (.pointer (some ⟨g30, 0, none⟩)) _ ⟨qv_up hV (fun _ h => Option.some.inj h), hE⟩)
                · have h31 : a_.tmps[31]? = some (.pointer (some ⟨g30, 0, none⟩)) := (hval (4, 31) (by decide) (hon 4 (by decide))).trans (congrArg some (hV 4 _ rfl (hon 4 (by decide))))
                  obtain ⟨l_, rfl⟩ := hfr
                  have hE0 := hE
                  rw [show bq_ 17 = false from (hoff 17 (by decide))] at hE0
                  simp only [cond_true, cond_false] at hE0
                  have HS := hE0
                  have e31 : evl l_ (.tmp 31) = .pointer (some ⟨g30, 0, none⟩) := evl_of h31
                  refine ⟨_, rfl, fun K_ hK_ => wp_of_list rfl ?_⟩
                  intro ops_
                  refine p_run _ (x_load (.int .i64 x.1) rfl e31 (bkCell (HS.get (.head _)) 0 _ rfl) (by rfl)) rfl ?_
                  refine wpList_nil ?_
                  exact norm_put (hK_ (.int .i64 x.1) _ ⟨qv_up hV (fun _ h => Option.some.inj h), hE⟩)
                · have h30 : a_.tmps[30]? = some (.slice (some ⟨gs, 0, none⟩) S.stable.length S.stable.length) := (hval (3, 30) (by decide) (hon 3 (by decide))).trans (congrArg some (hV 3 _ rfl (hon 3 (by decide))))
                  have h32 : a_.tmps[32]? = some (.int .i64 x.1) := (hval (5, 32) (by decide) (hon 5 (by decide))).trans (congrArg some (hV 5 _ rfl (hon 5 (by decide))))
                  obtain ⟨l_, rfl⟩ := hfr
                  have e30 : evl l_ (.tmp 30) = .slice (some ⟨gs, 0, none⟩) S.stable.length S.stable.length := evl_of h30
                  have e32 : evl l_ (.tmp 32) = .int .i64 x.1 := evl_of h32
                  refine ⟨_, rfl, fun K_ hK_ => wp_of_list rfl ?_⟩
                  intro ops_
                  refine p_run (.pointer (some ⟨gs, (x.1).toNat * 256, none⟩)) ((x_index (A := ⟨gs, 0, none⟩) (j := (x.1).toNat * 256) (sz := 256) rfl e30 e32 Try.underlying49 (by kernel_rfl) (by omega) rfl).trans (by rw [add_mk, Nat.zero_add])) rfl ?_
                  refine wpList_nil ?_
                  exact norm_put (hK_ (.pointer (some ⟨gs, (x.1).toNat * 256, none⟩)) _ ⟨qv_up hV (fun _ h => Option.some.inj h), hE⟩)
                · have h6 : a_.tmps[6]? = some (.int .i64 (q : Int)) := (hel 6 (by decide)).trans rfl
                  obtain ⟨l_, rfl⟩ := hfr
                  have e6 : evl l_ (.tmp 6) = .int .i64 (q : Int) := evl_of h6
                  refine ⟨_, rfl, fun K_ hK_ => wp_of_list rfl ?_⟩
                  intro ops_
                  refine p_run _ (x_move (.int .i64 (q : Int)) rfl e6) rfl ?_
                  refine wpList_nil ?_
                  exact norm_put (hK_ (.int .i64 (q : Int)) _ ⟨qv_up hV (fun _ h => Option.some.inj h), hE⟩)
                · have h34 : a_.tmps[34]? = some (.int .i64 (q : Int)) := (hval (7, 34) (by decide) (hon 7 (by decide))).trans (congrArg some (hV 7 _ rfl (hon 7 (by decide))))
                  obtain ⟨l_, rfl⟩ := hfr
                  have e34 : evl l_ (.tmp 34) = .int .i64 (q : Int) := evl_of h34
                  refine ⟨_, rfl, fun K_ hK_ => wp_of_list rfl ?_⟩
                  intro ops_
                  refine p_run _ (x_arith (k := .i64) (m := (q : Int)) (n := 32) .mul (((q * 32 : Nat) : Int)) rfl e34 rfl (show IntKind.i64.wrap ((q : Int) * 32) = ((q * 32 : Nat) : Int) from ((wr64 (by omega)).trans (by omega))) rfl) rfl ?_
                  refine wpList_nil ?_
                  exact norm_put (hK_ (.int .i64 ((q * 32 : Nat) : Int)) _ ⟨qv_up hV (fun _ h => Option.some.inj h), hE⟩)
                · have h6 : a_.tmps[6]? = some (.int .i64 (q : Int)) := (hel 6 (by decide)).trans rfl
                  obtain ⟨l_, rfl⟩ := hfr
                  have e6 : evl l_ (.tmp 6) = .int .i64 (q : Int) := evl_of h6
                  refine ⟨_, rfl, fun K_ hK_ => wp_of_list rfl ?_⟩
                  intro ops_
                  refine p_run _ (x_move (.int .i64 (q : Int)) rfl e6) rfl ?_
                  refine wpList_nil ?_
                  exact norm_put (hK_ (.int .i64 (q : Int)) _ ⟨qv_up hV (fun _ h => Option.some.inj h), hE⟩)
                · have h36 : a_.tmps[36]? = some (.int .i64 (q : Int)) := (hval (9, 36) (by decide) (hon 9 (by decide))).trans (congrArg some (hV 9 _ rfl (hon 9 (by decide))))
                  obtain ⟨l_, rfl⟩ := hfr
                  have e36 : evl l_ (.tmp 36) = .int .i64 (q : Int) := evl_of h36
                  refine ⟨_, rfl, fun K_ hK_ => wp_of_list rfl ?_⟩
                  intro ops_
                  refine p_run _ (x_arith (k := .i64) (m := (q : Int)) (n := 1) .add (((q + 1 : Nat) : Int)) rfl e36 rfl (show IntKind.i64.wrap ((q : Int) + 1) = ((q + 1 : Nat) : Int) from ((wr64 (by omega)).trans (by omega))) rfl) rfl ?_
                  refine wpList_nil ?_
                  exact norm_put (hK_ (.int .i64 ((q + 1 : Nat) : Int)) _ ⟨qv_up hV (fun _ h => Option.some.inj h), hE⟩)
                · have h37 : a_.tmps[37]? = some (.int .i64 ((q + 1 : Nat) : Int)) := (hval (10, 37) (by decide) (hon 10 (by decide))).trans (congrArg some (hV 10 _ rfl (hon 10 (by decide))))
                  obtain ⟨l_, rfl⟩ := hfr
                  have e37 : evl l_ (.tmp 37) = .int .i64 ((q + 1 : Nat) : Int) := evl_of h37
                  refine ⟨_, rfl, fun K_ hK_ => wp_of_list rfl ?_⟩
                  intro ops_
                  refine p_run _ (x_arith (k := .i64) (m := ((q + 1 : Nat) : Int)) (n := 32) .mul ((((q + 1) * 32 : Nat) : Int)) rfl e37 rfl (show IntKind.i64.wrap (((q + 1 : Nat) : Int) * 32) = (((q + 1) * 32 : Nat) : Int) from ((wr64 (by omega)).trans (by omega))) rfl) rfl ?_
                  refine wpList_nil ?_
                  exact norm_put (hK_ (.int .i64 (((q + 1) * 32 : Nat) : Int)) _ ⟨qv_up hV (fun _ h => Option.some.inj h), hE⟩)
                · have h33 : a_.tmps[33]? = some (.pointer (some ⟨gs, (x.1).toNat * 256, none⟩)) := (hval (6, 33) (by decide) (hon 6 (by decide))).trans (congrArg some (hV 6 _ rfl (hon 6 (by decide))))
                  have h35 : a_.tmps[35]? = some (.int .i64 ((q * 32 : Nat) : Int)) := (hval (8, 35) (by decide) (hon 8 (by decide))).trans (congrArg some (hV 8 _ rfl (hon 8 (by decide))))
                  have h38 : a_.tmps[38]? = some (.int .i64 (((q + 1) * 32 : Nat) : Int)) := (hval (11, 38) (by decide) (hon 11 (by decide))).trans (congrArg some (hV 11 _ rfl (hon 11 (by decide))))
                  obtain ⟨l_, rfl⟩ := hfr
                  have e33 : evl l_ (.tmp 33) = .pointer (some ⟨gs, (x.1).toNat * 256, none⟩) := evl_of h33
                  have e35 : evl l_ (.tmp 35) = .int .i64 ((q * 32 : Nat) : Int) := evl_of h35
                  have e38 : evl l_ (.tmp 38) = .int .i64 (((q + 1) * 32 : Nat) : Int) := evl_of h38
                  refine ⟨_, rfl, fun K_ hK_ => wp_of_list rfl ?_⟩
                  intro ops_
                  refine p_run (.slice (some ⟨gs, (x.1).toNat * 256 + (q * 32 : Nat), none⟩) 32 (256 - q * 32)) ((x_sliceArr (sz := 1) (L := (some (.tmp 35))) (H := (some (.tmp 38))) (lo := (q * 32 : Nat)) (hi := ((q + 1) * 32 : Nat)) ⟨gs, (x.1).toNat * 256 + (q * 32 : Nat), none⟩ rfl e33 Try.underlying38 (by kernel_rfl) ⟨_, _, e35, (by omega), rfl⟩ ⟨_, _, e38, (by omega), rfl⟩ (by omega) (by omega) (by rw [if_neg (by omega), add_mk, Nat.mul_one])).trans (by first | rfl | (rw [show ((q + 1) * 32 : Nat) - (q * 32 : Nat) = 32 from (by omega), show 256 - (q * 32 : Nat) = 256 - q * 32 from (by omega)]))) rfl ?_
                  refine wpList_nil ?_
                  exact norm_put (hK_ (.slice (some ⟨gs, (x.1).toNat * 256 + (q * 32 : Nat), none⟩) 32 (256 - q * 32)) _ ⟨qv_up hV (fun _ h => Option.some.inj h), hE⟩)
                · have h5 : a_.tmps[5]? = some (.pointer (some ⟨g30, 0, none⟩)) := (hel 5 (by decide)).trans rfl
                  obtain ⟨l_, rfl⟩ := hfr
                  have e5 : evl l_ (.tmp 5) = .pointer (some ⟨g30, 0, none⟩) := evl_of h5
                  refine ⟨_, rfl, fun K_ hK_ => wp_of_list rfl ?_⟩
                  intro ops_
                  refine p_run _ (x_field (j := 1) _ _ rfl e5 Try.underlying78 rfl (by rfl) rfl) rfl ?_
                  refine wpList_nil ?_
                  exact norm_put (hK_ (.pointer (some ⟨g30, 1, none⟩)) _ ⟨qv_up hV (fun _ h => Option.some.inj h), hE⟩)
                · have h6 : a_.tmps[6]? = some (.int .i64 (q : Int)) := (hel 6 (by decide)).trans rfl
                  obtain ⟨l_, rfl⟩ := hfr
                  have e6 : evl l_ (.tmp 6) = .int .i64 (q : Int) := evl_of h6
                  refine ⟨_, rfl, fun K_ hK_ => wp_of_list rfl ?_⟩
                  intro ops_
                  refine p_run _ (x_move (.int .i64 (q : Int)) rfl e6) rfl ?_
                  refine wpList_nil ?_
                  exact norm_put (hK_ (.int .i64 (q : Int)) _ ⟨qv_up hV (fun _ h => Option.some.inj h), hE⟩)
                · have h41 : a_.tmps[41]? = some (.int .i64 (q : Int)) := (hval (14, 41) (by decide) (hon 14 (by decide))).trans (congrArg some (hV 14 _ rfl (hon 14 (by decide))))
                  obtain ⟨l_, rfl⟩ := hfr
                  have e41 : evl l_ (.tmp 41) = .int .i64 (q : Int) := evl_of h41
                  refine ⟨_, rfl, fun K_ hK_ => wp_of_list rfl ?_⟩
                  intro ops_
                  refine p_run _ (x_arith (k := .i64) (m := (q : Int)) (n := 32) .mul (((q * 32 : Nat) : Int)) rfl e41 rfl (show IntKind.i64.wrap ((q : Int) * 32) = ((q * 32 : Nat) : Int) from ((wr64 (by omega)).trans (by omega))) rfl) rfl ?_
                  refine wpList_nil ?_
                  exact norm_put (hK_ (.int .i64 ((q * 32 : Nat) : Int)) _ ⟨qv_up hV (fun _ h => Option.some.inj h), hE⟩)
                · have h40 : a_.tmps[40]? = some (.pointer (some ⟨g30, 1, none⟩)) := (hval (13, 40) (by decide) (hon 13 (by decide))).trans (congrArg some (hV 13 _ rfl (hon 13 (by decide))))
                  have h42 : a_.tmps[42]? = some (.int .i64 ((q * 32 : Nat) : Int)) := (hval (15, 42) (by decide) (hon 15 (by decide))).trans (congrArg some (hV 15 _ rfl (hon 15 (by decide))))
                  obtain ⟨l_, rfl⟩ := hfr
                  have e40 : evl l_ (.tmp 40) = .pointer (some ⟨g30, 1, none⟩) := evl_of h40
                  have e42 : evl l_ (.tmp 42) = .int .i64 ((q * 32 : Nat) : Int) := evl_of h42
                  refine ⟨_, rfl, fun K_ hK_ => wp_of_list rfl ?_⟩
                  intro ops_
                  refine p_run (.slice (some ⟨g30, 1 + (q * 32 : Nat), none⟩) (256 - q * 32) (256 - q * 32)) ((x_sliceArr (sz := 1) (L := (some (.tmp 42))) (H := none) (lo := (q * 32 : Nat)) (hi := 256) ⟨g30, 1 + (q * 32 : Nat), none⟩ rfl e40 Try.underlying38 (by kernel_rfl) ⟨_, _, e42, (by omega), rfl⟩ rfl (by omega) (by omega) (by rw [if_neg (by omega), add_mk, Nat.mul_one])).trans (by first | rfl | (rw [show 256 - (q * 32 : Nat) = 256 - q * 32 from (by omega), show 256 - (q * 32 : Nat) = 256 - q * 32 from (by omega)]))) rfl ?_
                  refine wpList_nil ?_
                  exact norm_put (hK_ (.slice (some ⟨g30, 1 + (q * 32 : Nat), none⟩) (256 - q * 32) (256 - q * 32)) _ ⟨qv_up hV (fun _ h => Option.some.inj h), hE⟩)
                · have h39 : a_.tmps[39]? = some (.slice (some ⟨gs, (x.1).toNat * 256 + (q * 32 : Nat), none⟩) 32 (256 - q * 32)) := (hval (12, 39) (by decide) (hon 12 (by decide))).trans (congrArg some (hV 12 _ rfl (hon 12 (by decide))))
                  have h43 : a_.tmps[43]? = some (.slice (some ⟨g30, 1 + (q * 32 : Nat), none⟩) (256 - q * 32) (256 - q * 32)) := (hval (16, 43) (by decide) (hon 16 (by decide))).trans (congrArg some (hV 16 _ rfl (hon 16 (by decide))))
                  obtain ⟨l_, rfl⟩ := hfr
                  have hE0 := hE
                  rw [show bq_ 17 = false from hb_] at hE0
                  simp only [cond_true, cond_false] at hE0
                  have HS := hE0
                  have e39 : evl l_ (.tmp 39) = .slice (some ⟨gs, (x.1).toNat * 256 + (q * 32 : Nat), none⟩) 32 (256 - q * 32) := evl_of h39
                  have e43 : evl l_ (.tmp 43) = .slice (some ⟨g30, 1 + (q * 32 : Nat), none⟩) (256 - q * 32) (256 - q * 32) := evl_of h43
                  refine ⟨_, rfl, fun K_ hK_ => wp_of_list rfl ?_⟩
                  intro ops_
                  refine St.wCopy (HS.front 2 rfl) Try.underlying24 (by kernel_rfl) e39 e43 (nums .u8 ((x.2.drop (q * 32)).take 32)) (by show _ = min (256 - q * 32) 32; simp [nums_length, hx2] <;> omega) (fun _ => ⟨_, rfl, bkCells (HS.get (.head _)) (1 + q * 32) _ (src_cut _ hx2 hq)⟩) (mix_fit hT ho hx2 hq) (nums_one _ _) (mix_yes hT ho hx2 hq hbit) ?_
                  clear HS
                  intro w901701 HS
                  rw [fr_put]
                  refine wpList_nil ?_
                  refine norm_put (hK_ (.int .i64 ((nums .u8 ((x.2.drop (q * 32)).take 32)).length : Int)) _ ⟨qv_up hV (by intro _ h; cases h), ?_⟩)
                  show cond true _ _
                  rw [cond_true]
                  exact ⟨rfl, (((((HS.front 4 rfl).front 4 rfl).front 4 rfl).front 4 rfl).front 4 rfl)⟩
              intro bq_ vq_ w_ hall hG
              obtain ⟨hV, hE⟩ := hG
              clear HS
              rw [show bq_ 17 = true from hall 17 (by decide)] at hE
              simp only [cond_true] at hE
              obtain ⟨hv17, HS⟩ := hE
              have hv0 := hV 0 _ rfl (hall 0 (by decide))
              have hv1 := hV 1 _ rfl (hall 1 (by decide))
              have hv2 := hV 2 _ rfl (hall 2 (by decide))
              have hv3 := hV 3 _ rfl (hall 3 (by decide))
              have hv4 := hV 4 _ rfl (hall 4 (by decide))
              have hv5 := hV 5 _ rfl (hall 5 (by decide))
              have hv6 := hV 6 _ rfl (hall 6 (by decide))
              have hv7 := hV 7 _ rfl (hall 7 (by decide))
              have hv8 := hV 8 _ rfl (hall 8 (by decide))
              have hv9 := hV 9 _ rfl (hall 9 (by decide))
              have hv10 := hV 10 _ rfl (hall 10 (by decide))
              have hv11 := hV 11 _ rfl (hall 11 (by decide))
              have hv12 := hV 12 _ rfl (hall 12 (by decide))
              have hv13 := hV 13 _ rfl (hall 13 (by decide))
              have hv14 := hV 14 _ rfl (hall 14 (by decide))
              have hv15 := hV 15 _ rfl (hall 15 (by decide))
              have hv16 := hV 16 _ rfl (hall 16 (by decide))
              clear hV hall
              rw [putSel_fr]
              simp only [tells, List.map_cons, List.map_nil, setAll, List.set_cons_succ, List.set_cons_zero, hv0, hv1, hv2, hv3, hv4, hv5, hv6, hv7, hv8, hv9, hv10, hv11, hv12, hv13, hv14, hv15, hv16, hv17]
              clear hv0 hv1 hv2 hv3 hv4 hv5 hv6 hv7 hv8 hv9 hv10 hv11 hv12 hv13 hv14 hv15 hv16 hv17
              generalize w_ = w901702 at HS ⊢
              refine fr_at (l' := [.pointer (some ⟨D, 0, none⟩), .func (.func f) #[] cap.toArray, undef, undef, .int .i64 (k : Int), .pointer (some ⟨g30, 0, none⟩), .int .i64 (q : Int), .pointer (some ⟨D, 0, none⟩), .pointer (some ⟨D, 0, none⟩), .pointer (some ⟨D, 2, none⟩), .slice (some ad) S.pending.length c, .int .i64 (S.pending.length : Int), .int .i64 (k : Int), .bool (decide ((k : Int) < (S.pending.length : Int))), .int .i64 (k : Int), .pointer (some ((ad).add (k * 257))), .agg (Value.int .i64 x.1 :: (nums .u8 x.2)).toArray, .int .i64 (q : Int), .bool (decide ((q : Int) < 8)), .int .i64 (q : Int), .func (.func f) #[] cap.toArray, .int .i64 (k : Int), .int .u8 (mask k), .int .i64 (q : Int), .int .u8 (mask k / 2 ^ q), .int .u8 (mask k / 2 ^ q % 2), .bool ((mask k / 2 ^ q % 2) == 1), .pointer (some ⟨D, 0, none⟩), .pointer (some ⟨D, 0, none⟩), .pointer (some ⟨D, 0, none⟩), .slice (some ⟨gs, 0, none⟩) S.stable.length S.stable.length, .pointer (some ⟨g30, 0, none⟩), .int .i64 x.1, .pointer (some ⟨gs, (x.1).toNat * 256, none⟩), .int .i64 (q : Int), .int .i64 ((q * 32 : Nat) : Int), .int .i64 (q : Int), .int .i64 ((q + 1 : Nat) : Int), .int .i64 (((q + 1) * 32 : Nat) : Int), .slice (some ⟨gs, (x.1).toNat * 256 + (q * 32 : Nat), none⟩) 32 (256 - q * 32), .pointer (some ⟨g30, 1, none⟩), .int .i64 (q : Int), .int .i64 ((q * 32 : Nat) : Int), .slice (some ⟨g30, 1 + (q * 32 : Nat), none⟩) (256 - q * 32) (256 - q * 32), .int .i64 ((nums .u8 ((x.2.drop (q * 32)).take 32)).length : Int), uq42.2.2.2.2, uq13, undef, undef, undef]) rfl ?_
              refine hK54 _ _ ?_
              refine c_region (fun ops901704 hops901703 => ?_)
              clear hops901703
              refine p_run _ (x_arith (k := .i64) (m := (q : Int)) (n := 1) .add (((q + 1 : Nat) : Int)) rfl rfl rfl (show IntKind.i64.wrap ((q : Int) + 1) = ((q + 1 : Nat) : Int) from ((wr64 (by omega)).trans (by omega))) rfl) rfl ?_
              refine p_run _ (x_move (.int .i64 ((q + 1 : Nat) : Int)) rfl rfl) rfl ?_
              refine wpList_nil ?_
              refine fr_at (l' := [.pointer (some ⟨D, 0, none⟩), .func (.func f) #[] cap.toArray, undef, undef, .int .i64 (k : Int), .pointer (some ⟨g30, 0, none⟩), .int .i64 (q : Int), .pointer (some ⟨D, 0, none⟩), .pointer (some ⟨D, 0, none⟩), .pointer (some ⟨D, 2, none⟩), .slice (some ad) S.pending.length c, .int .i64 (S.pending.length : Int), .int .i64 (k : Int), .bool (decide ((k : Int) < (S.pending.length : Int))), .int .i64 (k : Int), .pointer (some ((ad).add (k * 257))), .agg (Value.int .i64 x.1 :: (nums .u8 x.2)).toArray, .int .i64 ((q + 1 : Nat) : Int), .bool (decide ((q : Int) < 8)), .int .i64 (q : Int), .func (.func f) #[] cap.toArray, .int .i64 (k : Int), .int .u8 (mask k), .int .i64 (q : Int), .int .u8 (mask k / 2 ^ q), .int .u8 (mask k / 2 ^ q % 2), .bool ((mask k / 2 ^ q % 2) == 1), .pointer (some ⟨D, 0, none⟩), .pointer (some ⟨D, 0, none⟩), .pointer (some ⟨D, 0, none⟩), .slice (some ⟨gs, 0, none⟩) S.stable.length S.stable.length, .pointer (some ⟨g30, 0, none⟩), .int .i64 x.1, .pointer (some ⟨gs, (x.1).toNat * 256, none⟩), .int .i64 (q : Int), .int .i64 ((q * 32 : Nat) : Int), .int .i64 (q : Int), .int .i64 ((q + 1 : Nat) : Int), .int .i64 (((q + 1) * 32 : Nat) : Int), .slice (some ⟨gs, (x.1).toNat * 256 + (q * 32 : Nat), none⟩) 32 (256 - q * 32), .pointer (some ⟨g30, 1, none⟩), .int .i64 (q : Int), .int .i64 ((q * 32 : Nat) : Int), .slice (some ⟨g30, 1 + (q * 32 : Nat), none⟩) (256 - q * 32) (256 - q * 32), .int .i64 ((nums .u8 ((x.2.drop (q * 32)).take 32)).length : Int), .int .i64 ((q + 1 : Nat) : Int), uq13, undef, undef, undef]) rfl ?_
              refine hJ44 (q + 1) _ _ ?_ ?_
              · show 8 - (q + 1) < 8 - q; omega
              · exact ⟨(.int .i64 (q : Int), .bool (decide ((q : Int) < 8)), .int .i64 (q : Int), .func (.func f) #[] cap.toArray, .int .i64 (k : Int), .int .u8 (mask k)), (.int .i64 (q : Int), .int .u8 (mask k / 2 ^ q), .int .u8 (mask k / 2 ^ q % 2), .bool ((mask k / 2 ^ q % 2) == 1), .pointer (some ⟨D, 0, none⟩), .pointer (some ⟨D, 0, none⟩)), (.pointer (some ⟨D, 0, none⟩), .slice (some ⟨gs, 0, none⟩) S.stable.length S.stable.length, .pointer (some ⟨g30, 0, none⟩), .int .i64 x.1, .pointer (some ⟨gs, (x.1).toNat * 256, none⟩), .int .i64 (q : Int)), (.int .i64 ((q * 32 : Nat) : Int), .int .i64 (q : Int), .int .i64 ((q + 1 : Nat) : Int), .int .i64 (((q + 1) * 32 : Nat) : Int), .slice (some ⟨gs, (x.1).toNat * 256 + (q * 32 : Nat), none⟩) 32 (256 - q * 32), .pointer (some ⟨g30, 1, none⟩)), (.int .i64 (q : Int), .int .i64 ((q * 32 : Nat) : Int), .slice (some ⟨g30, 1 + (q * 32 : Nat), none⟩) (256 - q * 32) (256 - q * 32), .int .i64 ((nums .u8 ((x.2.drop (q * 32)).take 32)).length : Int), .int .i64 ((q + 1 : Nat) : Int)), rfl, (((((HS.front 4 rfl).front 4 rfl).front 2 rfl).front 4 rfl).front 4 rfl), (by omega)⟩
            · have hbit : ¬ mask k / 2 ^ q % 2 = 1 := by simpa using hc63
              refine wp_skip ?_
              refine hK54 _ _ ?_
              refine c_region (fun ops901706 hops901705 => ?_)
              clear hops901705
              refine p_run _ (x_arith (k := .i64) (m := (q : Int)) (n := 1) .add (((q + 1 : Nat) : Int)) rfl rfl rfl (show IntKind.i64.wrap ((q : Int) + 1) = ((q + 1 : Nat) : Int) from ((wr64 (by omega)).trans (by omega))) rfl) rfl ?_
              refine p_run _ (x_move (.int .i64 ((q + 1 : Nat) : Int)) rfl rfl) rfl ?_
              refine wpList_nil ?_
              refine fr_at (l' := [.pointer (some ⟨D, 0, none⟩), .func (.func f) #[] cap.toArray, undef, undef, .int .i64 (k : Int), .pointer (some ⟨g30, 0, none⟩), .int .i64 (q : Int), .pointer (some ⟨D, 0, none⟩), .pointer (some ⟨D, 0, none⟩), .pointer (some ⟨D, 2, none⟩), .slice (some ad) S.pending.length c, .int .i64 (S.pending.length : Int), .int .i64 (k : Int), .bool (decide ((k : Int) < (S.pending.length : Int))), .int .i64 (k : Int), .pointer (some ((ad).add (k * 257))), .agg (Value.int .i64 x.1 :: (nums .u8 x.2)).toArray, .int .i64 ((q + 1 : Nat) : Int), .bool (decide ((q : Int) < 8)), .int .i64 (q : Int), .func (.func f) #[] cap.toArray, .int .i64 (k : Int), .int .u8 (mask k), .int .i64 (q : Int), .int .u8 (mask k / 2 ^ q), .int .u8 (mask k / 2 ^ q % 2), .bool ((mask k / 2 ^ q % 2) == 1), uq39.2.2.2.2.1, uq39.2.2.2.2.2, uq40.1, uq40.2.1, uq40.2.2.1, uq40.2.2.2.1, uq40.2.2.2.2.1, uq40.2.2.2.2.2, uq41.1, uq41.2.1, uq41.2.2.1, uq41.2.2.2.1, uq41.2.2.2.2.1, uq41.2.2.2.2.2, uq42.1, uq42.2.1, uq42.2.2.1, uq42.2.2.2.1, .int .i64 ((q + 1 : Nat) : Int), uq13, undef, undef, undef]) rfl ?_
              rw [← mix_no hbit] at HS
              refine hJ44 (q + 1) _ _ ?_ ?_
              · show 8 - (q + 1) < 8 - q; omega
              · exact ⟨(.int .i64 (q : Int), .bool (decide ((q : Int) < 8)), .int .i64 (q : Int), .func (.func f) #[] cap.toArray, .int .i64 (k : Int), .int .u8 (mask k)), (.int .i64 (q : Int), .int .u8 (mask k / 2 ^ q), .int .u8 (mask k / 2 ^ q % 2), .bool ((mask k / 2 ^ q % 2) == 1), uq39.2.2.2.2.1, uq39.2.2.2.2.2), uq40, uq41, (uq42.1, uq42.2.1, uq42.2.2.1, uq42.2.2.2.1, .int .i64 ((q + 1 : Nat) : Int)), rfl, (((((HS.front 4 rfl).front 4 rfl).front 4 rfl).front 4 rfl).front 4 rfl), (by omega)⟩
          · have hq : q = 8 := by have := of_decide_eq_false hc52; omega
            subst hq
            refine wp_exit ?_
            refine hK25 _ _ ?_
            refine c_region (fun ops901708 hops901707 => ?_)
            clear hops901707
            refine p_run _ (x_arith (k := .i64) (m := (k : Int)) (n := 1) .add (((k + 1 : Nat) : Int)) rfl rfl rfl (show IntKind.i64.wrap ((k : Int) + 1) = ((k + 1 : Nat) : Int) from ((wr64 (by omega)).trans (by omega))) rfl) rfl ?_
            refine p_run _ (x_move (.int .i64 ((k + 1 : Nat) : Int)) rfl rfl) rfl ?_
            refine wpList_nil ?_
            refine fr_at (l' := [.pointer (some ⟨D, 0, none⟩), .func (.func f) #[] cap.toArray, undef, undef, .int .i64 (k : Int), .pointer (some ⟨g30, 0, none⟩), uq38.1, .pointer (some ⟨D, 0, none⟩), .pointer (some ⟨D, 0, none⟩), .pointer (some ⟨D, 2, none⟩), .slice (some ad) S.pending.length c, .int .i64 (S.pending.length : Int), .int .i64 ((k + 1 : Nat) : Int), .bool (decide ((k : Int) < (S.pending.length : Int))), .int .i64 (k : Int), .pointer (some ((ad).add (k * 257))), .agg (Value.int .i64 x.1 :: (nums .u8 x.2)).toArray, .int .i64 ((8 : Nat) : Int), .bool (decide (((8 : Nat) : Int) < 8)), uq38.2.2.1, uq38.2.2.2.1, uq38.2.2.2.2.1, uq38.2.2.2.2.2, uq39.1, uq39.2.1, uq39.2.2.1, uq39.2.2.2.1, uq39.2.2.2.2.1, uq39.2.2.2.2.2, uq40.1, uq40.2.1, uq40.2.2.1, uq40.2.2.2.1, uq40.2.2.2.2.1, uq40.2.2.2.2.2, uq41.1, uq41.2.1, uq41.2.2.1, uq41.2.2.2.1, uq41.2.2.2.2.1, uq41.2.2.2.2.2, uq42.1, uq42.2.1, uq42.2.2.1, uq42.2.2.2.1, uq42.2.2.2.2, .int .i64 ((k + 1 : Nat) : Int), undef, undef, undef]) rfl ?_
            refine hJ15 (k + 1, T.set x.1.toNat (mixS (mask k) o x.2 8)) _ _ ?_ ?_
            · show S.pending.length - (k + 1) < S.pending.length - k; omega
            · exact ⟨(.int .i64 (k : Int), .pointer (some ⟨g30, 0, none⟩), uq38.1, .bool (decide ((k : Int) < (S.pending.length : Int))), .int .i64 (k : Int), .pointer (some ((ad).add (k * 257)))), (.agg (Value.int .i64 x.1 :: (nums .u8 x.2)).toArray, .int .i64 ((8 : Nat) : Int), .bool (decide (((8 : Nat) : Int) < 8)), uq38.2.2.1, uq38.2.2.2.1, uq38.2.2.2.2.1), (uq38.2.2.2.2.2, uq39.1, uq39.2.1, uq39.2.2.1, uq39.2.2.2.1, uq39.2.2.2.2.1), (uq39.2.2.2.2.2, uq40.1, uq40.2.1, uq40.2.2.1, uq40.2.2.2.1, uq40.2.2.2.2.1), (uq40.2.2.2.2.2, uq41.1, uq41.2.1, uq41.2.2.1, uq41.2.2.2.1, uq41.2.2.2.2.1), (uq41.2.2.2.2.2, uq42.1, uq42.2.1, uq42.2.2.1, uq42.2.2.2.1, uq42.2.2.2.2), .int .i64 ((k + 1 : Nat) : Int), rfl, ((((HS.drop.front 3 rfl).front 3 rfl).front 3 rfl).front 3 rfl), ⟨hI1, set_len hT (mixS_len hol hx2 8 (by omega)), by rw [List.length_set]; exact hTl⟩⟩
      · have hlt : ¬ k < S.pending.length := by have := of_decide_eq_false hc23; omega
        obtain ⟨hI1, hT, hTl⟩ := hI
        rw [List.drop_of_length_le (by omega)] at hI1
        refine wp_exit ?_
        refine hK2 _ _ ?_
        refine c_region (fun ops901710 hops901709 => ?_)
        clear hops901709
        refine p_run _ (x_move (.pointer (some ⟨D, 0, none⟩)) rfl rfl) rfl ?_
        refine p_run _ (x_nil rfl rfl) rfl ?_
        refine p_run _ (x_field (j := 2) _ _ rfl rfl Try.underlying72 rfl (by rfl) rfl) rfl ?_
        refine St.store (cs' := [.slice (some ⟨gs, 0, none⟩) S.stable.length S.stable.length, .map (some gm), .slice none 0 0, .int .i64 S.left, .bool S.down]) HS (.slice none 0 0) rfl rfl rfl (by kernel_rfl) (by rfl) rfl ?_
        clear HS
        intro w901711 HS
        refine wpList_nil ?_
        refine fr_at (l' := [.pointer (some ⟨D, 0, none⟩), .func (.func f) #[] cap.toArray, undef, undef, uq7.1, uq7.2.1, uq7.2.2.1, .pointer (some ⟨D, 0, none⟩), .pointer (some ⟨D, 0, none⟩), .pointer (some ⟨D, 2, none⟩), .slice A S.pending.length c, .int .i64 (S.pending.length : Int), .int .i64 (k : Int), .bool (decide ((k : Int) < (S.pending.length : Int))), uq7.2.2.2.2.1, uq7.2.2.2.2.2, uq8.1, uq8.2.1, uq8.2.2.1, uq8.2.2.2.1, uq8.2.2.2.2.1, uq8.2.2.2.2.2, uq9.1, uq9.2.1, uq9.2.2.1, uq9.2.2.2.1, uq9.2.2.2.2.1, uq9.2.2.2.2.2, uq10.1, uq10.2.1, uq10.2.2.1, uq10.2.2.2.1, uq10.2.2.2.2.1, uq10.2.2.2.2.2, uq11.1, uq11.2.1, uq11.2.2.1, uq11.2.2.2.1, uq11.2.2.2.2.1, uq11.2.2.2.2.2, uq12.1, uq12.2.1, uq12.2.2.1, uq12.2.2.2.1, uq12.2.2.2.2.1, uq12.2.2.2.2.2, uq13, .pointer (some ⟨D, 0, none⟩), .pointer (some ⟨D, 0, none⟩), .pointer (some ⟨D, 2, none⟩)]) rfl ?_
        refine c_end (.tuple #[]) (r_none rfl) ?_
        replace HS := HS.nil kWr rfl 78
        have e1 : S.settle mask = { S with stable := T, pending := [] } := by unfold Dk.settle; rw [← hI1]; rfl
        rw [e1]
        refine ⟨.slice none 0 0, rfl, ?_⟩
        show St _ _ _ (blk D [.slice (some ⟨gs, 0, none⟩) T.length T.length, _, _, _, _] _ :: _)
        rw [hTl]
        exact ((((HS.front 4 rfl).drop.front 3 rfl).front 3 rfl).front 3 rfl)
end
end Go.Proofs.Ytenlkobjldhfgaa
