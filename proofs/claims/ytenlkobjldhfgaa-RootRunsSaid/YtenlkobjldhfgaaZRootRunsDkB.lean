/- Several texts in one: Disk4, Disk5. -/
import Derived.Test.YtenlkobjldhfgaaZRootRunsDkA
import Derived.Test.YtenlkobjldhfgaaZRootRunsV8
set_option linter.unusedVariables false
set_option linter.unusedSimpArgs false
namespace Go.Proofs.Ytenlkobjldhfgaa
open Go.RowKit Go.Proofs.YtenlkobjldhfgaaW.PrintWords Go.Proofs.YtenlkobjldhfgaaW.PrintLast
abbrev U4vdisk4 (l : List Value) : List Value := undef :: undef :: undef :: undef :: l
abbrev U8vdisk4 (l : List Value) : List Value := U4vdisk4 (U4vdisk4 l)
abbrev U16vdisk4 (l : List Value) : List Value := U8vdisk4 (U8vdisk4 l)
abbrev U32vdisk4 (l : List Value) : List Value := U16vdisk4 (U16vdisk4 l)
section
variable {w0 W : World} {F : Nat → Prop} {L : List Res} {D gs gm : Nat} {v : Value} {S : Dk}
theorem u8_bit {m : Int} (hm : 0 ≤ m ∧ m < 256) (q : Nat) : IntKind.wrap .u8 ((((m / 2 ^ q % 2 ^ 8).toNat &&& ((1 : Int) % 2 ^ 8).toNat : Nat)) : Int) = m / 2 ^ q % 2 := by
 have h1 : 0 ≤ m / 2 ^ q := Int.ediv_nonneg hm.1 (Int.pow_nonneg (by omega))
 have h2 : m / 2 ^ q ≤ m := Int.ediv_le_self _ hm.1
 generalize m / 2 ^ q = z at h1 h2
 have e1 : ((1 : Int) % 2 ^ 8).toNat = 1 := by decide
 have e2 : z % 2 ^ 8 = z := by omega
 rw [e1, e2, Nat.and_one_is_mod, IntKind.wrap_u8]
 omega
def mixS (m : Int) (o x : List Int) : Nat → List Int
 | 0 => o
 | q + 1 => if m / 2 ^ q % 2 = 1 then (mixS m o x q).take (q * 32) ++ (x.drop (q * 32)).take 32 ++ (mixS m o x q).drop (q * 32 + 32) else mixS m o x q
theorem mixS_len {m : Int} {o x : List Int} (ho : o.length = 256) (hx : x.length = 256) : ∀ q, q ≤ 8 → (mixS m o x q).length = 256
 | 0, _ => ho
 | q + 1, hq => by
  have ih := mixS_len (m := m) ho hx q (by omega)
  unfold mixS
  split
  ·simp [ih, hx]; omega
  ·exact ih
def settleL (mask : Nat → Int) : Nat → List (Int × List Int) → List (List Int) → List (List Int)
 | _, [], T => T
 | k, x :: l, T => settleL mask (k + 1) l (T.set x.1.toNat (mixS (mask k) (T.getD x.1.toNat zpg) x.2 8))
def Dk.settle (S : Dk) (mask : Nat → Int) : Dk := { S with stable := settleL mask 0 S.pending S.stable, pending := [] }
theorem set_len {T : List (List Int)} {i : Nat} {p : List Int} (hT : ∀ p ∈ T, p.length = 256) (hp : p.length = 256) : ∀ q ∈ T.set i p, q.length = 256 := by
 intro q hq
 rcases List.mem_or_eq_of_mem_set hq with h | h
 ·exact hT q h
 ·rw [h]; exact hp
theorem mix_yes {T : List (List Int)} {i : Nat} {m : Int} {o x : List Int} {q : Nat} (hT : ∀ p ∈ T, p.length = 256) (ho : T[i]? = some o) (hx : x.length = 256) (hq : q < 8) (hb : m / 2 ^ q % 2 = 1) : lay (pgs (T.set i (mixS m o x q))) (i * 256 + q * 32) (nums .u8 ((x.drop (q * 32)).take 32)) = pgs (T.set i (mixS m o x (q + 1))) := by
 have hol := hT o (List.mem_of_getElem? ho)
 have hl := mixS_len (m := m) hol hx q (by omega)
 have hi := (List.getElem?_eq_some_iff.1 ho).1
 have hu : ((x.drop (q * 32)).take 32).length = 32 := by rw [List.length_take, List.length_drop]; omega
 rw [pgs_lay (T.set i (mixS m o x q)) i (mixS m o x q) (mixS m o x (q + 1)) (q * 32) _ (set_len hT hl) (by rw [List.getElem?_set_self hi]) (by omega) (by rw [hu]; conv => lhs; unfold mixS; rw [if_pos hb]), List.set_set]
theorem mix_no {m : Int} {o x : List Int} {q : Nat} (hb : ¬ m / 2 ^ q % 2 = 1) : mixS m o x (q + 1) = mixS m o x q := by
 conv => lhs; unfold mixS; rw [if_neg hb]
theorem mix_fit {T : List (List Int)} {i : Nat} {m : Int} {o x : List Int} {q : Nat} (hT : ∀ p ∈ T, p.length = 256) (ho : T[i]? = some o) (hx : x.length = 256) (hq : q < 8) : i * 256 + q * 32 + (nums .u8 ((x.drop (q * 32)).take 32)).length ≤ (pgs (T.set i (mixS m o x q))).length := by
 have hol := hT o (List.mem_of_getElem? ho)
 have hl := mixS_len (m := m) hol hx q (by omega)
 have hi := (List.getElem?_eq_some_iff.1 ho).1
 rw [pgs_length _ (set_len hT hl), nums_length, List.length_set, List.length_take]
 omega
theorem src_cut (a : Value) {p : List Int} {q : Nat} (hp : p.length = 256) (hq : q < 8) : (((a :: nums .u8 p : List Value)).drop (1 + q * 32)).take ((nums .u8 ((p.drop (q * 32)).take 32)).length) = nums .u8 ((p.drop (q * 32)).take 32) := by
 have e : 1 + q * 32 = q * 32 + 1 := by omega
 rw [e, List.drop_succ_cons, nums_length, List.length_take, List.length_drop, hp, show min 32 (256 - q * 32) = 32 by omega]
 simp only [nums, List.map_take, List.map_drop]
theorem set_same {T : List (List Int)} {i : Nat} {o : List Int} (ho : T[i]? = some o) : T.set i o = T := by
 obtain ⟨hi, rfl⟩ := List.getElem?_eq_some_iff.1 ho
 exact List.set_getElem_self hi
theorem settle_step {mask : Nat → Int} {k : Nat} {P : List (Int × List Int)} {x : Int × List Int} {T : List (List Int)} {o : List Int} (hk : k < P.length) (hx : P[k]? = some x) (ho : T[x.1.toNat]? = some o) : settleL mask k (P.drop k) T = settleL mask (k + 1) (P.drop (k + 1)) (T.set x.1.toNat (mixS (mask k) o x.2 8)) := by
 obtain ⟨_, rfl⟩ := List.getElem?_eq_some_iff.1 hx
 rw [List.drop_eq_getElem_cons hk]
 have e : T.getD P[k].1.toNat zpg = o := by rw [List.getD_eq_getElem?_getD, ho]; rfl
 conv => lhs; unfold settleL; rw [e]
set_option maxRecDepth 10000 in
set_option maxHeartbeats 2000000 in
theorem settle_any (HS : St w0 F W (dsk D gs gm v S L)) (hS : S.ok) (hpn : S.pending.length < 1000000) (mask : Nat → Int) (hm0 : ∀ k, 0 ≤ mask k ∧ mask k < 256) (f : FuncId) (fn : Func) (cap : List Value) (hff : Try.prog.funcs[f]? = some fn) (hnm : (fn.name == "runtime.NumGoroutine") = false) (hbd : fn.body.isSome = true) (hm : ∀ (k : Nat) (w : World) (X : List Res), k < S.pending.length → St w0 F w (X ++ L) → Calls Try.prog f ([Value.int .i64 (k : Int)] ++ cap).toArray w fun e w' => e = .returned (.int .u8 (mask k)) ∧ w' = w) : Calls Try.prog 35 #[.pointer (some ⟨D, 0, none⟩), .func (.func f) #[] cap.toArray] W fun e w' => ∃ v', e = .returned (.tuple #[]) ∧ St w0 F w' (dsk D gs gm v' (S.settle mask) L) := by
 obtain ⟨A, c, hv, hcap, -⟩ := row_reads (HS.get (.tail _ (.tail _ (.tail _ (.head _)))))
 subst hv
 ·refine c_enter Try.func35 rfl 50 rfl (.pointer (some ⟨D, 0, none⟩) :: .func (.func f) #[] cap.toArray :: U32vdisk4 (U16vdisk4 ([]))) rfl ?_
  refine wp_seq_k (fun K1 hK2 => ?_)
  refine wp_seq_k (fun K3 hK4 => ?_)
  refine c_region (fun ops6 hops5 => ?_)
  clear hops5
  refine p_run _ (x_move (.pointer (some ⟨D, 0, none⟩)) rfl rfl) rfl ?_
  refine p_run _ (x_nil rfl rfl) rfl ?_
  refine p_run _ (x_field (j := 2) _ _ rfl rfl Try.underlying72 rfl (by rfl) rfl) rfl ?_
  refine p_run _ (x_load (.slice A S.pending.length c) rfl rfl (bkCell (HS.get (.head _)) 2 _ rfl) (by rfl)) rfl ?_
  refine p_run _ (x_len rfl rfl Try.underlying70) rfl ?_
  refine p_run _ (x_move (.int .i64 0) rfl rfl) rfl ?_
  refine wpList_nil ?_
  refine fr_at (l' := (.pointer (some ⟨D, 0, none⟩) :: .func (.func f) #[] cap.toArray :: U4vdisk4 (undef :: .pointer (some ⟨D, 0, none⟩) :: .pointer (some ⟨D, 0, none⟩) :: .pointer (some ⟨D, 2, none⟩) :: .slice A S.pending.length c :: .int .i64 (S.pending.length : Int) :: .int .i64 0 :: U32vdisk4 (U4vdisk4 (undef :: []))))) rfl ?_
  refine hK4 _ _ ?_
  refine wp_block ?_
  refine c_loop (ι := Nat × List (List Int)) (fun i_ a_ w_ => match i_ with | (k, T) => ∃ (q7 : V8) (q8 : V8) (q9 : V8) (q10 : V8) (q11 : V8), a_ = fr (.pointer (some ⟨D, 0, none⟩) :: .func (.func f) #[] cap.toArray :: undef :: undef :: q7.a :: q7.b :: q7.c :: .pointer (some ⟨D, 0, none⟩) :: .pointer (some ⟨D, 0, none⟩) :: .pointer (some ⟨D, 2, none⟩) :: .slice A S.pending.length c :: .int .i64 (S.pending.length : Int) :: .int .i64 (k : Int) :: q7.d :: q7.e :: q7.f :: q7.g :: q7.h :: V8.l q8 (V8.l q9 (V8.l q10 (q11.a :: q11.b :: q11.c :: q11.d :: q11.e :: undef :: undef :: undef :: [])))) ∧ St w0 F w_ (blk D [.slice (some ⟨gs, 0, none⟩) S.stable.length S.stable.length, .map (some gm), .slice A S.pending.length c, .int .i64 S.left, .bool S.down] 72 :: blk gs (pgs T) 38 :: mapR gm S.cnt S.bad :: row kWr rfl 78 (.slice A S.pending.length c) S.pending :: L) ∧ (settleL mask k (S.pending.drop k) T = settleL mask 0 S.pending S.stable ∧ (∀ p ∈ T, p.length = 256) ∧ T.length = S.stable.length)) (fun i_ => match i_ with | (k, T) => S.pending.length - k) (0, S.stable) ?_ ?_
  ·exact ⟨⟨undef, undef, undef, undef, undef, undef, undef, undef⟩, ⟨undef, undef, undef, undef, undef, undef, undef, undef⟩, ⟨undef, undef, undef, undef, undef, undef, undef, undef⟩, ⟨undef, undef, undef, undef, undef, undef, undef, undef⟩, ⟨undef, undef, undef, undef, undef, undef, undef, undef⟩, rfl, ((((HS.front 3 rfl).front 3 rfl).front 3 rfl).front 3 rfl), ⟨rfl, hS.1, rfl⟩⟩
  ·clear HS
   rintro ⟨k, T⟩ a_ w14 ⟨q7, q8, q9, q10, q11, rfl, HS, hI⟩ J12 hJ13
   refine wp_seq_k (fun K15 hK16 => ?_)
   refine c_region (fun ops18 hops17 => ?_)
   clear hops17
   refine p_run _ (x_cmp (k := .i64) (m := (k : Int)) (n := (S.pending.length : Int)) .lss (decide ((k : Int) < (S.pending.length : Int))) rfl rfl rfl rfl rfl) rfl ?_
   refine wpList_nil ?_
   refine hK16 _ _ ?_
   refine wp_seq_k (fun K19 hK20 => ?_)
   refine c_cond (t := decide ((k : Int) < (S.pending.length : Int))) rfl (fun hc21 => ?_) (fun hc21 => ?_)
   ·have hlt : k < S.pending.length := by have := of_decide_eq_true hc21; omega
    have hC := (row_C (HS.get (.tail _ (.tail _ (.tail _ (.head _)))))).2.2
    obtain ⟨ad, x, rfl, hx, hx2, hcell⟩ := wr_get hC k hlt
    obtain ⟨hI1, hT, hTl⟩ := hI
    have hpx := hS.2.2.2.2 x (List.mem_of_getElem? hx)
    obtain ⟨o, ho⟩ : ∃ o, T[x.1.toNat]? = some o := ⟨_, List.getElem?_eq_getElem (by omega)⟩
    have hol := hT o (List.mem_of_getElem? ho)
    rw [settle_step hlt hx ho] at hI1
    refine wp_skip ?_
    refine hK20 _ _ ?_
    refine wp_seq_k (fun K22 hK23 => ?_)
    refine wp_block ?_
    refine wp_seq_k (fun K24 hK25 => ?_)
    refine c_region (fun ops27 hops26 => ?_)
    clear hops26
    refine p_run _ (x_move (.int .i64 (k : Int)) rfl rfl) rfl ?_
    refine p_run _ (x_index (A := ad) (j := k * 257) (sz := 257) rfl rfl rfl Try.underlying70 (by kernel_rfl) (by omega) rfl) rfl ?_
    refine p_run _ (x_loads (Value.int .i64 x.1 :: (nums .u8 x.2)) 257 rfl rfl hcell (by rfl) (by kernel_rfl) (by simp [hx2, nums_length])) rfl ?_
    refine St.wAlloc HS (cs := (Value.int .i64 0 :: (nums .u8 zpg))) (.agg (Value.int .i64 0 :: (nums .u8 zpg)).toArray) (by kernel_rfl) rfl ?_
    clear HS
    intro g28 w29 hg30 HS
    refine p_run _ (x_assign (.int .i64 (k : Int)) rfl rfl) rfl ?_
    refine St.stores (cs' := (Value.int .i64 x.1 :: (nums .u8 x.2))) HS (Value.int .i64 x.1 :: (nums .u8 x.2)) 257 rfl rfl (all1 rfl (nums_one _ _)) (by kernel_rfl) (by simp [hx2, nums_length]) (by simp [hx2, nums_length, zlen]) (lay_all _ _ (by simp [hx2, nums_length, zlen])) ?_
    clear HS
    intro w31 HS
    refine wpList_nil ?_
    refine hK25 _ _ ?_
    refine wp_seq_k (fun K32 hK33 => ?_)
    refine c_region (fun ops35 hops34 => ?_)
    clear hops34
    refine p_run _ (x_move (.int .i64 0) rfl rfl) rfl ?_
    refine wpList_nil ?_
    refine fr_at (l' := (.pointer (some ⟨D, 0, none⟩) :: .func (.func f) #[] cap.toArray :: undef :: undef :: .int .i64 (k : Int) :: .pointer (some ⟨g28, 0, none⟩) :: q7.c :: .pointer (some ⟨D, 0, none⟩) :: .pointer (some ⟨D, 0, none⟩) :: .pointer (some ⟨D, 2, none⟩) :: .slice (some ad) S.pending.length c :: .int .i64 (S.pending.length : Int) :: .int .i64 (k : Int) :: .bool (decide ((k : Int) < (S.pending.length : Int))) :: .int .i64 (k : Int) :: .pointer (some ((ad).add (k * 257))) :: .agg (Value.int .i64 x.1 :: (nums .u8 x.2)).toArray :: .int .i64 0 :: V8.l q8 (V8.l q9 (V8.l q10 (q11.a :: q11.b :: q11.c :: q11.d :: q11.e :: undef :: undef :: undef :: []))))) rfl ?_
    refine hK33 _ _ ?_
    refine wp_block ?_
    refine c_loop (ι := Nat) (fun i_ a_ w_ => match i_ with | q => ∃ (q36 : V8) (q37 : V8) (q38 : V8) (q39 : V8), a_ = fr (.pointer (some ⟨D, 0, none⟩) :: .func (.func f) #[] cap.toArray :: undef :: undef :: .int .i64 (k : Int) :: .pointer (some ⟨g28, 0, none⟩) :: q36.a :: .pointer (some ⟨D, 0, none⟩) :: .pointer (some ⟨D, 0, none⟩) :: .pointer (some ⟨D, 2, none⟩) :: .slice (some ad) S.pending.length c :: .int .i64 (S.pending.length : Int) :: .int .i64 (k : Int) :: .bool (decide ((k : Int) < (S.pending.length : Int))) :: .int .i64 (k : Int) :: .pointer (some ((ad).add (k * 257))) :: .agg (Value.int .i64 x.1 :: (nums .u8 x.2)).toArray :: .int .i64 (q : Int) :: q36.b :: q36.c :: q36.d :: q36.e :: q36.f :: q36.g :: q36.h :: V8.l q37 (V8.l q38 (q39.a :: q39.b :: q39.c :: q39.d :: q39.e :: q11.e :: undef :: undef :: undef :: []))) ∧ St w0 F w_ (blk g28 (Value.int .i64 x.1 :: (nums .u8 x.2)) 78 :: blk D [.slice (some ⟨gs, 0, none⟩) S.stable.length S.stable.length, .map (some gm), .slice (some ad) S.pending.length c, .int .i64 S.left, .bool S.down] 72 :: blk gs (pgs (T.set x.1.toNat (mixS (mask k) o x.2 q))) 38 :: mapR gm S.cnt S.bad :: row kWr rfl 78 (.slice (some ad) S.pending.length c) S.pending :: L) ∧ (q ≤ 8)) (fun i_ => match i_ with | q => 8 - q) 0 ?_ ?_
    ·exact ⟨⟨q7.c, q8.a, q8.b, q8.c, q8.d, q8.e, q8.f, q8.g⟩, ⟨q8.h, q9.a, q9.b, q9.c, q9.d, q9.e, q9.f, q9.g⟩, ⟨q9.h, q10.a, q10.b, q10.c, q10.d, q10.e, q10.f, q10.g⟩, ⟨q10.h, q11.a, q11.b, q11.c, q11.d, undef, undef, undef⟩, rfl, (by rw [show T.set x.1.toNat (mixS (mask k) o x.2 0) = T from set_same ho]; exact HS), (by omega)⟩
    ·clear HS
     rintro q a_ w42 ⟨q36, q37, q38, q39, rfl, HS, hI⟩ J40 hJ41
     refine wp_seq_k (fun K43 hK44 => ?_)
     refine c_region (fun ops46 hops45 => ?_)
     clear hops45
     refine p_run _ (x_cmp (k := .i64) (m := (q : Int)) (n := 8) .lss (decide ((q : Int) < 8)) rfl rfl rfl rfl rfl) rfl ?_
     refine wpList_nil ?_
     refine hK44 _ _ ?_
     refine wp_seq_k (fun K47 hK48 => ?_)
     refine c_cond (t := decide ((q : Int) < 8)) rfl (fun hc49 => ?_) (fun hc49 => ?_)
     ·have hq : q < 8 := by have := of_decide_eq_true hc49; omega
      refine wp_skip ?_
      refine hK48 _ _ ?_
      refine wp_seq_k (fun K50 hK51 => ?_)
      refine wp_block ?_
      refine wp_seq_k (fun K52 hK53 => ?_)
      refine c_region (fun ops55 hops54 => ?_)
      clear hops54
      refine p_run _ (x_move (.int .i64 (q : Int)) rfl rfl) rfl ?_
      refine p_run _ (x_assign (.int .i64 (q : Int)) rfl rfl) rfl ?_
      refine wpList_nil ?_
      refine hK53 _ _ ?_
      refine wp_seq_k (fun K56 hK57 => ?_)
      refine c_region (fun ops59 hops58 => ?_)
      clear hops58
      refine p_run _ (x_move (.func (.func f) #[] cap.toArray) rfl rfl) rfl ?_
      refine p_run _ (x_move (.int .i64 (k : Int)) rfl rfl) rfl ?_
      refine w_callv [.int .i64 (k : Int)] cap rfl hff hnm hbd rfl ?_
      refine (hm k _ [blk g28 (Value.int .i64 x.1 :: (nums .u8 x.2)) 78, blk D [.slice (some ⟨gs, 0, none⟩) S.stable.length S.stable.length, .map (some gm), .slice (some ad) S.pending.length c, .int .i64 S.left, .bool S.down] 72, blk gs (pgs (T.set x.1.toNat (mixS (mask k) o x.2 q))) 38, mapR gm S.cnt S.bad, row kWr rfl 78 (.slice (some ad) S.pending.length c) S.pending] hlt HS).mono ?_
      rintro e w' ⟨rfl, rfl⟩
      refine ⟨_, rfl, ?_⟩
      refine p_run _ (x_move (.int .i64 (q : Int)) rfl rfl) rfl ?_
      refine p_run _ (x_shr (k := .u8) (m := (mask k)) (n := (q : Int)) (mask k / 2 ^ q) rfl rfl rfl (by omega) (by rw [show min ((q : Int)).toNat (IntKind.bits .u8) = q from by simp [IntKind.bits]; omega])) rfl ?_
      refine p_run (l' := (.pointer (some ⟨D, 0, none⟩) :: .func (.func f) #[] cap.toArray :: undef :: undef :: .int .i64 (k : Int) :: .pointer (some ⟨g28, 0, none⟩) :: .int .i64 (q : Int) :: .pointer (some ⟨D, 0, none⟩) :: .pointer (some ⟨D, 0, none⟩) :: .pointer (some ⟨D, 2, none⟩) :: .slice (some ad) S.pending.length c :: .int .i64 (S.pending.length : Int) :: .int .i64 (k : Int) :: .bool (decide ((k : Int) < (S.pending.length : Int))) :: .int .i64 (k : Int) :: .pointer (some ((ad).add (k * 257))) :: .agg (Value.int .i64 x.1 :: (nums .u8 x.2)).toArray :: .int .i64 (q : Int) :: .bool (decide ((q : Int) < 8)) :: .int .i64 (q : Int) :: .func (.func f) #[] cap.toArray :: .int .i64 (k : Int) :: .int .u8 (mask k) :: .int .i64 (q : Int) :: .int .u8 (mask k / 2 ^ q) :: .int .u8 (mask k / 2 ^ q % 2) :: q37.b :: q37.c :: q37.d :: q37.e :: q37.f :: q37.g :: q37.h :: V8.l q38 (q39.a :: q39.b :: q39.c :: q39.d :: q39.e :: q11.e :: undef :: undef :: undef :: []))) _ (x_and (k := .u8) (m := mask k / 2 ^ q) (n := 1) (mask k / 2 ^ q % 2) rfl rfl rfl (u8_bit (hm0 k) q)) rfl ?_
      refine p_run _ (x_cmp (k := .u8) (m := mask k / 2 ^ q % 2) (n := 1) .eql ((mask k / 2 ^ q % 2) == 1) rfl rfl rfl rfl rfl) rfl ?_
      refine wpList_nil ?_
      refine hK57 _ _ ?_
      refine c_cond (t := ((mask k / 2 ^ q % 2) == 1)) rfl (fun hc60 => ?_) (fun hc60 => ?_)
      ·have hbit : mask k / 2 ^ q % 2 = 1 := by simpa using hc60
       refine free_frame (n := 18) (T := _) [0, 1, 3, 7, 0, 16, 63, 0, 128, 0, 512, 1536, 4095, 0, 0, 16384, 57344, 131071] [(0, 27), (1, 28), (2, 29), (3, 30), (4, 31), (5, 32), (6, 33), (7, 34), (8, 35), (9, 36), (10, 37), (11, 38), (12, 39), (13, 40), (14, 41), (15, 42), (16, 43), (17, 44)] (fun bq_ vq_ w_ => qv ((fun i_ => match i_ with | 0 => some (.pointer (some ⟨D, 0, none⟩)) | 1 => some (.pointer (some ⟨D, 0, none⟩)) | 2 => some (.pointer (some ⟨D, 0, none⟩)) | 3 => some (.slice (some ⟨gs, 0, none⟩) S.stable.length S.stable.length) | 4 => some (.pointer (some ⟨g28, 0, none⟩)) | 5 => some (.int .i64 x.1) | 6 => some (.pointer (some ⟨gs, (x.1).toNat * 256, none⟩)) | 7 => some (.int .i64 (q : Int)) | 8 => some (.int .i64 ((q * 32 : Nat) : Int)) | 9 => some (.int .i64 (q : Int)) | 10 => some (.int .i64 ((q + 1 : Nat) : Int)) | 11 => some (.int .i64 (((q + 1) * 32 : Nat) : Int)) | 12 => some (.slice (some ⟨gs, (x.1).toNat * 256 + (q * 32 : Nat), none⟩) 32 (256 - q * 32)) | 13 => some (.pointer (some ⟨g28, 1, none⟩)) | 14 => some (.int .i64 (q : Int)) | 15 => some (.int .i64 ((q * 32 : Nat) : Int)) | 16 => some (.slice (some ⟨g28, 1 + (q * 32 : Nat), none⟩) (256 - q * 32) (256 - q * 32)) | _ => none) : Nat → Option Value) bq_ vq_ ∧ cond (bq_ 17) (vq_ 17 = .int .i64 ((nums .u8 ((x.2.drop (q * 32)).take 32)).length : Int) ∧ St w0 F w_ (blk gs (pgs (T.set x.1.toNat (mixS (mask k) o x.2 (q + 1)))) 38 :: blk g28 (Value.int .i64 x.1 :: (nums .u8 x.2)) 78 :: blk D [.slice (some ⟨gs, 0, none⟩) S.stable.length S.stable.length, .map (some gm), .slice (some ad) S.pending.length c, .int .i64 S.left, .bool S.down] 72 :: mapR gm S.cnt S.bad :: row kWr rfl 78 (.slice (some ad) S.pending.length c) S.pending :: L)) ((St w0 F w_ (blk g28 (Value.int .i64 x.1 :: (nums .u8 x.2)) 78 :: blk D [.slice (some ⟨gs, 0, none⟩) S.stable.length S.stable.length, .map (some gm), .slice (some ad) S.pending.length c, .int .i64 S.left, .bool S.down] 72 :: blk gs (pgs (T.set x.1.toNat (mixS (mask k) o x.2 q))) 38 :: mapR gm S.cnt S.bad :: row kWr rfl 78 (.slice (some ad) S.pending.length c) S.pending :: L)))) (by kernel_rfl) rfl rfl (by kernel_rfl) (by kernel_rfl) rfl (by kernel_rfl) (by kernel_rfl) ⟨qv_none, HS.draw⟩ ?_ ?_
       ·clear HS
        intro i_ hi_ bq_ vq_ a_ w_ hG hb_ hon hoff hfr hel hval
        obtain ⟨hV, hE⟩ := hG
        have hi_ := List.mem_range.1 hi_
        have hcs : i_ = 0 ∨ i_ = 1 ∨ i_ = 2 ∨ i_ = 3 ∨ i_ = 4 ∨ i_ = 5 ∨ i_ = 6 ∨ i_ = 7 ∨ i_ = 8 ∨ i_ = 9 ∨ i_ = 10 ∨ i_ = 11 ∨ i_ = 12 ∨ i_ = 13 ∨ i_ = 14 ∨ i_ = 15 ∨ i_ = 16 ∨ i_ = 17 := by omega
        rcases hcs with rfl | rfl | rfl | rfl | rfl | rfl | rfl | rfl | rfl | rfl | rfl | rfl | rfl | rfl | rfl | rfl | rfl | rfl
        ·have h0 : a_.tmps[0]? = some (.pointer (some ⟨D, 0, none⟩)) := (hel 0 (by decide)).trans rfl
         obtain ⟨l_, rfl⟩ := hfr
         have e0 : evl l_ (.tmp 0) = .pointer (some ⟨D, 0, none⟩) := evl_of h0
         refine ⟨_, rfl, fun K_ hK_ => wp_of_list rfl ?_⟩
         intro ops_
         refine p_run _ (x_move (.pointer (some ⟨D, 0, none⟩)) rfl e0) rfl ?_
         refine wpList_nil ?_
         exact norm_put (hK_ (.pointer (some ⟨D, 0, none⟩)) _ ⟨qv_up hV (fun _ h => Option.some.inj h), hE⟩)
        ·have h27 : a_.tmps[27]? = some (.pointer (some ⟨D, 0, none⟩)) := (hval (0, 27) (by decide) (hon 0 (by decide))).trans (congrArg some (hV 0 _ rfl (hon 0 (by decide))))
         obtain ⟨l_, rfl⟩ := hfr
         have e27 : evl l_ (.tmp 27) = .pointer (some ⟨D, 0, none⟩) := evl_of h27
         refine ⟨_, rfl, fun K_ hK_ => wp_of_list rfl ?_⟩
         intro ops_
         refine p_run _ (x_nil rfl e27) rfl ?_
         refine wpList_nil ?_
         exact norm_put (hK_ (.pointer (some ⟨D, 0, none⟩)) _ ⟨qv_up hV (fun _ h => Option.some.inj h), hE⟩)
        ·have h28 : a_.tmps[28]? = some (.pointer (some ⟨D, 0, none⟩)) := (hval (1, 28) (by decide) (hon 1 (by decide))).trans (congrArg some (hV 1 _ rfl (hon 1 (by decide))))
         obtain ⟨l_, rfl⟩ := hfr
         have e28 : evl l_ (.tmp 28) = .pointer (some ⟨D, 0, none⟩) := evl_of h28
         refine ⟨_, rfl, fun K_ hK_ => wp_of_list rfl ?_⟩
         intro ops_
         refine p_run _ (x_field (j := 0) _ _ rfl e28 Try.underlying72 rfl (by rfl) rfl) rfl ?_
         refine wpList_nil ?_
         exact norm_put (hK_ (.pointer (some ⟨D, 0, none⟩)) _ ⟨qv_up hV (fun _ h => Option.some.inj h), hE⟩)
        ·have h29 : a_.tmps[29]? = some (.pointer (some ⟨D, 0, none⟩)) := (hval (2, 29) (by decide) (hon 2 (by decide))).trans (congrArg some (hV 2 _ rfl (hon 2 (by decide))))
         obtain ⟨l_, rfl⟩ := hfr
         have hE0 := hE
         rw [show bq_ 17 = false from (hoff 17 (by decide))] at hE0
         simp only [cond_true, cond_false] at hE0
         have HS := hE0
         have e29 : evl l_ (.tmp 29) = .pointer (some ⟨D, 0, none⟩) := evl_of h29
         refine ⟨_, rfl, fun K_ hK_ => wp_of_list rfl ?_⟩
         intro ops_
         refine p_run _ (x_load (.slice (some ⟨gs, 0, none⟩) S.stable.length S.stable.length) rfl e29 (bkCell (HS.get (.tail _ (.head _))) 0 _ rfl) (by rfl)) rfl ?_
         refine wpList_nil ?_
         exact norm_put (hK_ (.slice (some ⟨gs, 0, none⟩) S.stable.length S.stable.length) _ ⟨qv_up hV (fun _ h => Option.some.inj h), hE⟩)
        ·have h5 : a_.tmps[5]? = some (.pointer (some ⟨g28, 0, none⟩)) := (hel 5 (by decide)).trans rfl
         obtain ⟨l_, rfl⟩ := hfr
         have e5 : evl l_ (.tmp 5) = .pointer (some ⟨g28, 0, none⟩) := evl_of h5
         refine ⟨_, rfl, fun K_ hK_ => wp_of_list rfl ?_⟩
         intro ops_
         refine p_run _ (x_field (j := 0) _ _ rfl e5 Try.underlying78 rfl (by rfl) rfl) rfl ?_
         refine wpList_nil ?_
         exact norm_put (hK_ (.pointer (some ⟨g28, 0, none⟩)) _ ⟨qv_up hV (fun _ h => Option.some.inj h), hE⟩)
        ·have h31 : a_.tmps[31]? = some (.pointer (some ⟨g28, 0, none⟩)) := (hval (4, 31) (by decide) (hon 4 (by decide))).trans (congrArg some (hV 4 _ rfl (hon 4 (by decide))))
         obtain ⟨l_, rfl⟩ := hfr
         have hE0 := hE
         rw [show bq_ 17 = false from (hoff 17 (by decide))] at hE0
         simp only [cond_true, cond_false] at hE0
         have HS := hE0
         have e31 : evl l_ (.tmp 31) = .pointer (some ⟨g28, 0, none⟩) := evl_of h31
         refine ⟨_, rfl, fun K_ hK_ => wp_of_list rfl ?_⟩
         intro ops_
         refine p_run _ (x_load (.int .i64 x.1) rfl e31 (bkCell (HS.get (.head _)) 0 _ rfl) (by rfl)) rfl ?_
         refine wpList_nil ?_
         exact norm_put (hK_ (.int .i64 x.1) _ ⟨qv_up hV (fun _ h => Option.some.inj h), hE⟩)
        ·have h30 : a_.tmps[30]? = some (.slice (some ⟨gs, 0, none⟩) S.stable.length S.stable.length) := (hval (3, 30) (by decide) (hon 3 (by decide))).trans (congrArg some (hV 3 _ rfl (hon 3 (by decide))))
         have h32 : a_.tmps[32]? = some (.int .i64 x.1) := (hval (5, 32) (by decide) (hon 5 (by decide))).trans (congrArg some (hV 5 _ rfl (hon 5 (by decide))))
         obtain ⟨l_, rfl⟩ := hfr
         have e30 : evl l_ (.tmp 30) = .slice (some ⟨gs, 0, none⟩) S.stable.length S.stable.length := evl_of h30
         have e32 : evl l_ (.tmp 32) = .int .i64 x.1 := evl_of h32
         refine ⟨_, rfl, fun K_ hK_ => wp_of_list rfl ?_⟩
         intro ops_
         refine p_run (.pointer (some ⟨gs, (x.1).toNat * 256, none⟩)) ((x_index (A := ⟨gs, 0, none⟩) (j := (x.1).toNat * 256) (sz := 256) rfl e30 e32 Try.underlying49 (by kernel_rfl) (by omega) rfl).trans (by rw [add_mk, Nat.zero_add])) rfl ?_
         refine wpList_nil ?_
         exact norm_put (hK_ (.pointer (some ⟨gs, (x.1).toNat * 256, none⟩)) _ ⟨qv_up hV (fun _ h => Option.some.inj h), hE⟩)
        ·have h6 : a_.tmps[6]? = some (.int .i64 (q : Int)) := (hel 6 (by decide)).trans rfl
         obtain ⟨l_, rfl⟩ := hfr
         have e6 : evl l_ (.tmp 6) = .int .i64 (q : Int) := evl_of h6
         refine ⟨_, rfl, fun K_ hK_ => wp_of_list rfl ?_⟩
         intro ops_
         refine p_run _ (x_move (.int .i64 (q : Int)) rfl e6) rfl ?_
         refine wpList_nil ?_
         exact norm_put (hK_ (.int .i64 (q : Int)) _ ⟨qv_up hV (fun _ h => Option.some.inj h), hE⟩)
        ·have h34 : a_.tmps[34]? = some (.int .i64 (q : Int)) := (hval (7, 34) (by decide) (hon 7 (by decide))).trans (congrArg some (hV 7 _ rfl (hon 7 (by decide))))
         obtain ⟨l_, rfl⟩ := hfr
         have e34 : evl l_ (.tmp 34) = .int .i64 (q : Int) := evl_of h34
         refine ⟨_, rfl, fun K_ hK_ => wp_of_list rfl ?_⟩
         intro ops_
         refine p_run _ (x_arith (k := .i64) (m := (q : Int)) (n := 32) .mul (((q * 32 : Nat) : Int)) rfl e34 rfl (show IntKind.i64.wrap ((q : Int) * 32) = ((q * 32 : Nat) : Int) from ((wr64 (by omega)).trans (by omega))) rfl) rfl ?_
         refine wpList_nil ?_
         exact norm_put (hK_ (.int .i64 ((q * 32 : Nat) : Int)) _ ⟨qv_up hV (fun _ h => Option.some.inj h), hE⟩)
        ·have h6 : a_.tmps[6]? = some (.int .i64 (q : Int)) := (hel 6 (by decide)).trans rfl
         obtain ⟨l_, rfl⟩ := hfr
         have e6 : evl l_ (.tmp 6) = .int .i64 (q : Int) := evl_of h6
         refine ⟨_, rfl, fun K_ hK_ => wp_of_list rfl ?_⟩
         intro ops_
         refine p_run _ (x_move (.int .i64 (q : Int)) rfl e6) rfl ?_
         refine wpList_nil ?_
         exact norm_put (hK_ (.int .i64 (q : Int)) _ ⟨qv_up hV (fun _ h => Option.some.inj h), hE⟩)
        ·have h36 : a_.tmps[36]? = some (.int .i64 (q : Int)) := (hval (9, 36) (by decide) (hon 9 (by decide))).trans (congrArg some (hV 9 _ rfl (hon 9 (by decide))))
         obtain ⟨l_, rfl⟩ := hfr
         have e36 : evl l_ (.tmp 36) = .int .i64 (q : Int) := evl_of h36
         refine ⟨_, rfl, fun K_ hK_ => wp_of_list rfl ?_⟩
         intro ops_
         refine p_run _ (x_arith (k := .i64) (m := (q : Int)) (n := 1) .add (((q + 1 : Nat) : Int)) rfl e36 rfl (show IntKind.i64.wrap ((q : Int) + 1) = ((q + 1 : Nat) : Int) from ((wr64 (by omega)).trans (by omega))) rfl) rfl ?_
         refine wpList_nil ?_
         exact norm_put (hK_ (.int .i64 ((q + 1 : Nat) : Int)) _ ⟨qv_up hV (fun _ h => Option.some.inj h), hE⟩)
        ·have h37 : a_.tmps[37]? = some (.int .i64 ((q + 1 : Nat) : Int)) := (hval (10, 37) (by decide) (hon 10 (by decide))).trans (congrArg some (hV 10 _ rfl (hon 10 (by decide))))
         obtain ⟨l_, rfl⟩ := hfr
         have e37 : evl l_ (.tmp 37) = .int .i64 ((q + 1 : Nat) : Int) := evl_of h37
         refine ⟨_, rfl, fun K_ hK_ => wp_of_list rfl ?_⟩
         intro ops_
         refine p_run _ (x_arith (k := .i64) (m := ((q + 1 : Nat) : Int)) (n := 32) .mul ((((q + 1) * 32 : Nat) : Int)) rfl e37 rfl (show IntKind.i64.wrap (((q + 1 : Nat) : Int) * 32) = (((q + 1) * 32 : Nat) : Int) from ((wr64 (by omega)).trans (by omega))) rfl) rfl ?_
         refine wpList_nil ?_
         exact norm_put (hK_ (.int .i64 (((q + 1) * 32 : Nat) : Int)) _ ⟨qv_up hV (fun _ h => Option.some.inj h), hE⟩)
        ·have h33 : a_.tmps[33]? = some (.pointer (some ⟨gs, (x.1).toNat * 256, none⟩)) := (hval (6, 33) (by decide) (hon 6 (by decide))).trans (congrArg some (hV 6 _ rfl (hon 6 (by decide))))
         have h35 : a_.tmps[35]? = some (.int .i64 ((q * 32 : Nat) : Int)) := (hval (8, 35) (by decide) (hon 8 (by decide))).trans (congrArg some (hV 8 _ rfl (hon 8 (by decide))))
         have h38 : a_.tmps[38]? = some (.int .i64 (((q + 1) * 32 : Nat) : Int)) := (hval (11, 38) (by decide) (hon 11 (by decide))).trans (congrArg some (hV 11 _ rfl (hon 11 (by decide))))
         obtain ⟨l_, rfl⟩ := hfr
         have e33 : evl l_ (.tmp 33) = .pointer (some ⟨gs, (x.1).toNat * 256, none⟩) := evl_of h33
         have e35 : evl l_ (.tmp 35) = .int .i64 ((q * 32 : Nat) : Int) := evl_of h35
         have e38 : evl l_ (.tmp 38) = .int .i64 (((q + 1) * 32 : Nat) : Int) := evl_of h38
         refine ⟨_, rfl, fun K_ hK_ => wp_of_list rfl ?_⟩
         intro ops_
         refine p_run (.slice (some ⟨gs, (x.1).toNat * 256 + (q * 32 : Nat), none⟩) 32 (256 - q * 32)) ((x_sliceArr (sz := 1) (L := (some (.tmp 35))) (H := (some (.tmp 38))) (lo := (q * 32 : Nat)) (hi := ((q + 1) * 32 : Nat)) ⟨gs, (x.1).toNat * 256 + (q * 32 : Nat), none⟩ rfl e33 Try.underlying38 (by kernel_rfl) ⟨_, _, e35, (by omega), rfl⟩ ⟨_, _, e38, (by omega), rfl⟩ (by omega) (by omega) (by rw [if_neg (by omega), add_mk, Nat.mul_one])).trans (by first | rfl | (rw [show ((q + 1) * 32 : Nat) - (q * 32 : Nat) = 32 from (by omega), show 256 - (q * 32 : Nat) = 256 - q * 32 from (by omega)]))) rfl ?_
         refine wpList_nil ?_
         exact norm_put (hK_ (.slice (some ⟨gs, (x.1).toNat * 256 + (q * 32 : Nat), none⟩) 32 (256 - q * 32)) _ ⟨qv_up hV (fun _ h => Option.some.inj h), hE⟩)
        ·have h5 : a_.tmps[5]? = some (.pointer (some ⟨g28, 0, none⟩)) := (hel 5 (by decide)).trans rfl
         obtain ⟨l_, rfl⟩ := hfr
         have e5 : evl l_ (.tmp 5) = .pointer (some ⟨g28, 0, none⟩) := evl_of h5
         refine ⟨_, rfl, fun K_ hK_ => wp_of_list rfl ?_⟩
         intro ops_
         refine p_run _ (x_field (j := 1) _ _ rfl e5 Try.underlying78 rfl (by rfl) rfl) rfl ?_
         refine wpList_nil ?_
         exact norm_put (hK_ (.pointer (some ⟨g28, 1, none⟩)) _ ⟨qv_up hV (fun _ h => Option.some.inj h), hE⟩)
        ·have h6 : a_.tmps[6]? = some (.int .i64 (q : Int)) := (hel 6 (by decide)).trans rfl
         obtain ⟨l_, rfl⟩ := hfr
         have e6 : evl l_ (.tmp 6) = .int .i64 (q : Int) := evl_of h6
         refine ⟨_, rfl, fun K_ hK_ => wp_of_list rfl ?_⟩
         intro ops_
         refine p_run _ (x_move (.int .i64 (q : Int)) rfl e6) rfl ?_
         refine wpList_nil ?_
         exact norm_put (hK_ (.int .i64 (q : Int)) _ ⟨qv_up hV (fun _ h => Option.some.inj h), hE⟩)
        ·have h41 : a_.tmps[41]? = some (.int .i64 (q : Int)) := (hval (14, 41) (by decide) (hon 14 (by decide))).trans (congrArg some (hV 14 _ rfl (hon 14 (by decide))))
         obtain ⟨l_, rfl⟩ := hfr
         have e41 : evl l_ (.tmp 41) = .int .i64 (q : Int) := evl_of h41
         refine ⟨_, rfl, fun K_ hK_ => wp_of_list rfl ?_⟩
         intro ops_
         refine p_run _ (x_arith (k := .i64) (m := (q : Int)) (n := 32) .mul (((q * 32 : Nat) : Int)) rfl e41 rfl (show IntKind.i64.wrap ((q : Int) * 32) = ((q * 32 : Nat) : Int) from ((wr64 (by omega)).trans (by omega))) rfl) rfl ?_
         refine wpList_nil ?_
         exact norm_put (hK_ (.int .i64 ((q * 32 : Nat) : Int)) _ ⟨qv_up hV (fun _ h => Option.some.inj h), hE⟩)
        ·have h40 : a_.tmps[40]? = some (.pointer (some ⟨g28, 1, none⟩)) := (hval (13, 40) (by decide) (hon 13 (by decide))).trans (congrArg some (hV 13 _ rfl (hon 13 (by decide))))
         have h42 : a_.tmps[42]? = some (.int .i64 ((q * 32 : Nat) : Int)) := (hval (15, 42) (by decide) (hon 15 (by decide))).trans (congrArg some (hV 15 _ rfl (hon 15 (by decide))))
         obtain ⟨l_, rfl⟩ := hfr
         have e40 : evl l_ (.tmp 40) = .pointer (some ⟨g28, 1, none⟩) := evl_of h40
         have e42 : evl l_ (.tmp 42) = .int .i64 ((q * 32 : Nat) : Int) := evl_of h42
         refine ⟨_, rfl, fun K_ hK_ => wp_of_list rfl ?_⟩
         intro ops_
         refine p_run (.slice (some ⟨g28, 1 + (q * 32 : Nat), none⟩) (256 - q * 32) (256 - q * 32)) ((x_sliceArr (sz := 1) (L := (some (.tmp 42))) (H := none) (lo := (q * 32 : Nat)) (hi := 256) ⟨g28, 1 + (q * 32 : Nat), none⟩ rfl e40 Try.underlying38 (by kernel_rfl) ⟨_, _, e42, (by omega), rfl⟩ rfl (by omega) (by omega) (by rw [if_neg (by omega), add_mk, Nat.mul_one])).trans (by first | rfl | (rw [show 256 - (q * 32 : Nat) = 256 - q * 32 from (by omega), show 256 - (q * 32 : Nat) = 256 - q * 32 from (by omega)]))) rfl ?_
         refine wpList_nil ?_
         exact norm_put (hK_ (.slice (some ⟨g28, 1 + (q * 32 : Nat), none⟩) (256 - q * 32) (256 - q * 32)) _ ⟨qv_up hV (fun _ h => Option.some.inj h), hE⟩)
        ·have h39 : a_.tmps[39]? = some (.slice (some ⟨gs, (x.1).toNat * 256 + (q * 32 : Nat), none⟩) 32 (256 - q * 32)) := (hval (12, 39) (by decide) (hon 12 (by decide))).trans (congrArg some (hV 12 _ rfl (hon 12 (by decide))))
         have h43 : a_.tmps[43]? = some (.slice (some ⟨g28, 1 + (q * 32 : Nat), none⟩) (256 - q * 32) (256 - q * 32)) := (hval (16, 43) (by decide) (hon 16 (by decide))).trans (congrArg some (hV 16 _ rfl (hon 16 (by decide))))
         obtain ⟨l_, rfl⟩ := hfr
         have hE0 := hE
         rw [show bq_ 17 = false from hb_] at hE0
         simp only [cond_true, cond_false] at hE0
         have HS := hE0
         have e39 : evl l_ (.tmp 39) = .slice (some ⟨gs, (x.1).toNat * 256 + (q * 32 : Nat), none⟩) 32 (256 - q * 32) := evl_of h39
         have e43 : evl l_ (.tmp 43) = .slice (some ⟨g28, 1 + (q * 32 : Nat), none⟩) (256 - q * 32) (256 - q * 32) := evl_of h43
         refine ⟨_, rfl, fun K_ hK_ => wp_of_list rfl ?_⟩
         intro ops_
         refine St.wCopy (HS.front 2 rfl) Try.underlying24 (by kernel_rfl) e39 e43 (nums .u8 ((x.2.drop (q * 32)).take 32)) (by show _ = min (256 - q * 32) 32; simp [nums_length, hx2] <;> omega) (fun _ => ⟨_, rfl, bkCells (HS.get (.head _)) (1 + q * 32) _ (src_cut _ hx2 hq)⟩) (mix_fit hT ho hx2 hq) (nums_one _ _) (mix_yes hT ho hx2 hq hbit) ?_
         clear HS
         intro w901701 HS
         rw [fr_put]
         refine wpList_nil ?_
         refine norm_put (hK_ (.int .i64 ((nums .u8 ((x.2.drop (q * 32)).take 32)).length : Int)) _ ⟨qv_up hV (by intro _ h; cases h), ?_⟩)
         show cond true _ _
         rw [cond_true]
         exact ⟨rfl, (((((HS.front 4 rfl).front 4 rfl).front 4 rfl).front 4 rfl).front 4 rfl)⟩
       intro bq_ vq_ w_ hall hG
       obtain ⟨hV, hE⟩ := hG
       clear HS
       rw [show bq_ 17 = true from hall 17 (by decide)] at hE
       simp only [cond_true] at hE
       obtain ⟨hv17, HS⟩ := hE
       have hv0 := hV 0 _ rfl (hall 0 (by decide))
       have hv1 := hV 1 _ rfl (hall 1 (by decide))
       have hv2 := hV 2 _ rfl (hall 2 (by decide))
       have hv3 := hV 3 _ rfl (hall 3 (by decide))
       have hv4 := hV 4 _ rfl (hall 4 (by decide))
       have hv5 := hV 5 _ rfl (hall 5 (by decide))
       have hv6 := hV 6 _ rfl (hall 6 (by decide))
       have hv7 := hV 7 _ rfl (hall 7 (by decide))
       have hv8 := hV 8 _ rfl (hall 8 (by decide))
       have hv9 := hV 9 _ rfl (hall 9 (by decide))
       have hv10 := hV 10 _ rfl (hall 10 (by decide))
       have hv11 := hV 11 _ rfl (hall 11 (by decide))
       have hv12 := hV 12 _ rfl (hall 12 (by decide))
       have hv13 := hV 13 _ rfl (hall 13 (by decide))
       have hv14 := hV 14 _ rfl (hall 14 (by decide))
       have hv15 := hV 15 _ rfl (hall 15 (by decide))
       have hv16 := hV 16 _ rfl (hall 16 (by decide))
       clear hV hall
       rw [putSel_fr]
       simp only [tells, List.map_cons, List.map_nil, setAll, List.set_cons_succ, List.set_cons_zero, hv0, hv1, hv2, hv3, hv4, hv5, hv6, hv7, hv8, hv9, hv10, hv11, hv12, hv13, hv14, hv15, hv16, hv17]
       clear hv0 hv1 hv2 hv3 hv4 hv5 hv6 hv7 hv8 hv9 hv10 hv11 hv12 hv13 hv14 hv15 hv16 hv17
       generalize w_ = w901702 at HS ⊢
       refine fr_at (l' := (.pointer (some ⟨D, 0, none⟩) :: .func (.func f) #[] cap.toArray :: undef :: undef :: .int .i64 (k : Int) :: .pointer (some ⟨g28, 0, none⟩) :: .int .i64 (q : Int) :: .pointer (some ⟨D, 0, none⟩) :: .pointer (some ⟨D, 0, none⟩) :: .pointer (some ⟨D, 2, none⟩) :: .slice (some ad) S.pending.length c :: .int .i64 (S.pending.length : Int) :: .int .i64 (k : Int) :: .bool (decide ((k : Int) < (S.pending.length : Int))) :: .int .i64 (k : Int) :: .pointer (some ((ad).add (k * 257))) :: .agg (Value.int .i64 x.1 :: (nums .u8 x.2)).toArray :: .int .i64 (q : Int) :: .bool (decide ((q : Int) < 8)) :: .int .i64 (q : Int) :: .func (.func f) #[] cap.toArray :: .int .i64 (k : Int) :: .int .u8 (mask k) :: .int .i64 (q : Int) :: .int .u8 (mask k / 2 ^ q) :: .int .u8 (mask k / 2 ^ q % 2) :: .bool ((mask k / 2 ^ q % 2) == 1) :: .pointer (some ⟨D, 0, none⟩) :: .pointer (some ⟨D, 0, none⟩) :: .pointer (some ⟨D, 0, none⟩) :: .slice (some ⟨gs, 0, none⟩) S.stable.length S.stable.length :: .pointer (some ⟨g28, 0, none⟩) :: .int .i64 x.1 :: .pointer (some ⟨gs, (x.1).toNat * 256, none⟩) :: .int .i64 (q : Int) :: .int .i64 ((q * 32 : Nat) : Int) :: .int .i64 (q : Int) :: .int .i64 ((q + 1 : Nat) : Int) :: .int .i64 (((q + 1) * 32 : Nat) : Int) :: .slice (some ⟨gs, (x.1).toNat * 256 + (q * 32 : Nat), none⟩) 32 (256 - q * 32) :: .pointer (some ⟨g28, 1, none⟩) :: .int .i64 (q : Int) :: .int .i64 ((q * 32 : Nat) : Int) :: .slice (some ⟨g28, 1 + (q * 32 : Nat), none⟩) (256 - q * 32) (256 - q * 32) :: .int .i64 ((nums .u8 ((x.2.drop (q * 32)).take 32)).length : Int) :: q39.e :: q11.e :: undef :: undef :: undef :: [])) rfl ?_
       refine hK51 _ _ ?_
       refine c_region (fun ops901704 hops901703 => ?_)
       clear hops901703
       refine p_run _ (x_arith (k := .i64) (m := (q : Int)) (n := 1) .add (((q + 1 : Nat) : Int)) rfl rfl rfl (show IntKind.i64.wrap ((q : Int) + 1) = ((q + 1 : Nat) : Int) from ((wr64 (by omega)).trans (by omega))) rfl) rfl ?_
       refine p_run _ (x_move (.int .i64 ((q + 1 : Nat) : Int)) rfl rfl) rfl ?_
       refine wpList_nil ?_
       refine fr_at (l' := (.pointer (some ⟨D, 0, none⟩) :: .func (.func f) #[] cap.toArray :: undef :: undef :: .int .i64 (k : Int) :: .pointer (some ⟨g28, 0, none⟩) :: .int .i64 (q : Int) :: .pointer (some ⟨D, 0, none⟩) :: .pointer (some ⟨D, 0, none⟩) :: .pointer (some ⟨D, 2, none⟩) :: .slice (some ad) S.pending.length c :: .int .i64 (S.pending.length : Int) :: .int .i64 (k : Int) :: .bool (decide ((k : Int) < (S.pending.length : Int))) :: .int .i64 (k : Int) :: .pointer (some ((ad).add (k * 257))) :: .agg (Value.int .i64 x.1 :: (nums .u8 x.2)).toArray :: .int .i64 ((q + 1 : Nat) : Int) :: .bool (decide ((q : Int) < 8)) :: .int .i64 (q : Int) :: .func (.func f) #[] cap.toArray :: .int .i64 (k : Int) :: .int .u8 (mask k) :: .int .i64 (q : Int) :: .int .u8 (mask k / 2 ^ q) :: .int .u8 (mask k / 2 ^ q % 2) :: .bool ((mask k / 2 ^ q % 2) == 1) :: .pointer (some ⟨D, 0, none⟩) :: .pointer (some ⟨D, 0, none⟩) :: .pointer (some ⟨D, 0, none⟩) :: .slice (some ⟨gs, 0, none⟩) S.stable.length S.stable.length :: .pointer (some ⟨g28, 0, none⟩) :: .int .i64 x.1 :: .pointer (some ⟨gs, (x.1).toNat * 256, none⟩) :: .int .i64 (q : Int) :: .int .i64 ((q * 32 : Nat) : Int) :: .int .i64 (q : Int) :: .int .i64 ((q + 1 : Nat) : Int) :: .int .i64 (((q + 1) * 32 : Nat) : Int) :: .slice (some ⟨gs, (x.1).toNat * 256 + (q * 32 : Nat), none⟩) 32 (256 - q * 32) :: .pointer (some ⟨g28, 1, none⟩) :: .int .i64 (q : Int) :: .int .i64 ((q * 32 : Nat) : Int) :: .slice (some ⟨g28, 1 + (q * 32 : Nat), none⟩) (256 - q * 32) (256 - q * 32) :: .int .i64 ((nums .u8 ((x.2.drop (q * 32)).take 32)).length : Int) :: .int .i64 ((q + 1 : Nat) : Int) :: q11.e :: undef :: undef :: undef :: [])) rfl ?_
       refine hJ41 (q + 1) _ _ ?_ ?_
       ·show 8 - (q + 1) < 8 - q; omega
       ·exact ⟨⟨.int .i64 (q : Int), .bool (decide ((q : Int) < 8)), .int .i64 (q : Int), .func (.func f) #[] cap.toArray, .int .i64 (k : Int), .int .u8 (mask k), .int .i64 (q : Int), .int .u8 (mask k / 2 ^ q)⟩, ⟨.int .u8 (mask k / 2 ^ q % 2), .bool ((mask k / 2 ^ q % 2) == 1), .pointer (some ⟨D, 0, none⟩), .pointer (some ⟨D, 0, none⟩), .pointer (some ⟨D, 0, none⟩), .slice (some ⟨gs, 0, none⟩) S.stable.length S.stable.length, .pointer (some ⟨g28, 0, none⟩), .int .i64 x.1⟩, ⟨.pointer (some ⟨gs, (x.1).toNat * 256, none⟩), .int .i64 (q : Int), .int .i64 ((q * 32 : Nat) : Int), .int .i64 (q : Int), .int .i64 ((q + 1 : Nat) : Int), .int .i64 (((q + 1) * 32 : Nat) : Int), .slice (some ⟨gs, (x.1).toNat * 256 + (q * 32 : Nat), none⟩) 32 (256 - q * 32), .pointer (some ⟨g28, 1, none⟩)⟩, ⟨.int .i64 (q : Int), .int .i64 ((q * 32 : Nat) : Int), .slice (some ⟨g28, 1 + (q * 32 : Nat), none⟩) (256 - q * 32) (256 - q * 32), .int .i64 ((nums .u8 ((x.2.drop (q * 32)).take 32)).length : Int), .int .i64 ((q + 1 : Nat) : Int), undef, undef, undef⟩, rfl, (((((HS.front 4 rfl).front 4 rfl).front 2 rfl).front 4 rfl).front 4 rfl), (by omega)⟩
      ·have hbit : ¬ mask k / 2 ^ q % 2 = 1 := by simpa using hc60
       refine wp_skip ?_
       refine hK51 _ _ ?_
       refine c_region (fun ops901706 hops901705 => ?_)
       clear hops901705
       refine p_run _ (x_arith (k := .i64) (m := (q : Int)) (n := 1) .add (((q + 1 : Nat) : Int)) rfl rfl rfl (show IntKind.i64.wrap ((q : Int) + 1) = ((q + 1 : Nat) : Int) from ((wr64 (by omega)).trans (by omega))) rfl) rfl ?_
       refine p_run _ (x_move (.int .i64 ((q + 1 : Nat) : Int)) rfl rfl) rfl ?_
       refine wpList_nil ?_
       refine fr_at (l' := (.pointer (some ⟨D, 0, none⟩) :: .func (.func f) #[] cap.toArray :: undef :: undef :: .int .i64 (k : Int) :: .pointer (some ⟨g28, 0, none⟩) :: .int .i64 (q : Int) :: .pointer (some ⟨D, 0, none⟩) :: .pointer (some ⟨D, 0, none⟩) :: .pointer (some ⟨D, 2, none⟩) :: .slice (some ad) S.pending.length c :: .int .i64 (S.pending.length : Int) :: .int .i64 (k : Int) :: .bool (decide ((k : Int) < (S.pending.length : Int))) :: .int .i64 (k : Int) :: .pointer (some ((ad).add (k * 257))) :: .agg (Value.int .i64 x.1 :: (nums .u8 x.2)).toArray :: .int .i64 ((q + 1 : Nat) : Int) :: .bool (decide ((q : Int) < 8)) :: .int .i64 (q : Int) :: .func (.func f) #[] cap.toArray :: .int .i64 (k : Int) :: .int .u8 (mask k) :: .int .i64 (q : Int) :: .int .u8 (mask k / 2 ^ q) :: .int .u8 (mask k / 2 ^ q % 2) :: .bool ((mask k / 2 ^ q % 2) == 1) :: q37.c :: q37.d :: q37.e :: q37.f :: q37.g :: q37.h :: V8.l q38 (q39.a :: q39.b :: q39.c :: q39.d :: .int .i64 ((q + 1 : Nat) : Int) :: q11.e :: undef :: undef :: undef :: []))) rfl ?_
       rw [← mix_no hbit] at HS
       refine hJ41 (q + 1) _ _ ?_ ?_
       ·show 8 - (q + 1) < 8 - q; omega
       ·exact ⟨⟨.int .i64 (q : Int), .bool (decide ((q : Int) < 8)), .int .i64 (q : Int), .func (.func f) #[] cap.toArray, .int .i64 (k : Int), .int .u8 (mask k), .int .i64 (q : Int), .int .u8 (mask k / 2 ^ q)⟩, ⟨.int .u8 (mask k / 2 ^ q % 2), .bool ((mask k / 2 ^ q % 2) == 1), q37.c, q37.d, q37.e, q37.f, q37.g, q37.h⟩, q38, ⟨q39.a, q39.b, q39.c, q39.d, .int .i64 ((q + 1 : Nat) : Int), undef, undef, undef⟩, rfl, (((((HS.front 4 rfl).front 4 rfl).front 4 rfl).front 4 rfl).front 4 rfl), (by omega)⟩
     ·have hq : q = 8 := by have := of_decide_eq_false hc49; omega
      subst hq
      refine wp_exit ?_
      refine hK23 _ _ ?_
      refine c_region (fun ops901708 hops901707 => ?_)
      clear hops901707
      refine p_run _ (x_arith (k := .i64) (m := (k : Int)) (n := 1) .add (((k + 1 : Nat) : Int)) rfl rfl rfl (show IntKind.i64.wrap ((k : Int) + 1) = ((k + 1 : Nat) : Int) from ((wr64 (by omega)).trans (by omega))) rfl) rfl ?_
      refine p_run _ (x_move (.int .i64 ((k + 1 : Nat) : Int)) rfl rfl) rfl ?_
      refine wpList_nil ?_
      refine fr_at (l' := (.pointer (some ⟨D, 0, none⟩) :: .func (.func f) #[] cap.toArray :: undef :: undef :: .int .i64 (k : Int) :: .pointer (some ⟨g28, 0, none⟩) :: q36.a :: .pointer (some ⟨D, 0, none⟩) :: .pointer (some ⟨D, 0, none⟩) :: .pointer (some ⟨D, 2, none⟩) :: .slice (some ad) S.pending.length c :: .int .i64 (S.pending.length : Int) :: .int .i64 ((k + 1 : Nat) : Int) :: .bool (decide ((k : Int) < (S.pending.length : Int))) :: .int .i64 (k : Int) :: .pointer (some ((ad).add (k * 257))) :: .agg (Value.int .i64 x.1 :: (nums .u8 x.2)).toArray :: .int .i64 ((8 : Nat) : Int) :: .bool (decide (((8 : Nat) : Int) < 8)) :: q36.c :: q36.d :: q36.e :: q36.f :: q36.g :: q36.h :: V8.l q37 (V8.l q38 (q39.a :: q39.b :: q39.c :: q39.d :: q39.e :: .int .i64 ((k + 1 : Nat) : Int) :: undef :: undef :: undef :: [])))) rfl ?_
      refine hJ13 (k + 1, T.set x.1.toNat (mixS (mask k) o x.2 8)) _ _ ?_ ?_
      ·show S.pending.length - (k + 1) < S.pending.length - k; omega
      ·exact ⟨⟨.int .i64 (k : Int), .pointer (some ⟨g28, 0, none⟩), q36.a, .bool (decide ((k : Int) < (S.pending.length : Int))), .int .i64 (k : Int), .pointer (some ((ad).add (k * 257))), .agg (Value.int .i64 x.1 :: (nums .u8 x.2)).toArray, .int .i64 ((8 : Nat) : Int)⟩, ⟨.bool (decide (((8 : Nat) : Int) < 8)), q36.c, q36.d, q36.e, q36.f, q36.g, q36.h, q37.a⟩, ⟨q37.b, q37.c, q37.d, q37.e, q37.f, q37.g, q37.h, q38.a⟩, ⟨q38.b, q38.c, q38.d, q38.e, q38.f, q38.g, q38.h, q39.a⟩, ⟨q39.b, q39.c, q39.d, q39.e, .int .i64 ((k + 1 : Nat) : Int), undef, undef, undef⟩, rfl, ((((HS.drop.front 3 rfl).front 3 rfl).front 3 rfl).front 3 rfl), ⟨hI1, set_len hT (mixS_len hol hx2 8 (by omega)), by rw [List.length_set]; exact hTl⟩⟩
   ·have hlt : ¬ k < S.pending.length := by have := of_decide_eq_false hc21; omega
    obtain ⟨hI1, hT, hTl⟩ := hI
    rw [List.drop_of_length_le (by omega)] at hI1
    refine wp_exit ?_
    refine hK2 _ _ ?_
    refine c_region (fun ops901710 hops901709 => ?_)
    clear hops901709
    refine p_run _ (x_move (.pointer (some ⟨D, 0, none⟩)) rfl rfl) rfl ?_
    refine p_run _ (x_nil rfl rfl) rfl ?_
    refine p_run _ (x_field (j := 2) _ _ rfl rfl Try.underlying72 rfl (by rfl) rfl) rfl ?_
    refine St.store (cs' := [.slice (some ⟨gs, 0, none⟩) S.stable.length S.stable.length, .map (some gm), .slice none 0 0, .int .i64 S.left, .bool S.down]) HS (.slice none 0 0) rfl rfl rfl (by kernel_rfl) (by rfl) rfl ?_
    clear HS
    intro w901711 HS
    refine wpList_nil ?_
    obtain ⟨qz901712, hqz901712⟩ : ∃ q_ : V8, q_ = ⟨.pointer (some ⟨D, 0, none⟩), .func (.func f) #[] cap.toArray, undef, undef, q7.a, q7.b, q7.c, .pointer (some ⟨D, 0, none⟩)⟩ := ⟨_, rfl⟩
    obtain ⟨qz901713, hqz901713⟩ : ∃ q_ : V8, q_ = ⟨.pointer (some ⟨D, 0, none⟩), .pointer (some ⟨D, 2, none⟩), .slice A S.pending.length c, .int .i64 (S.pending.length : Int), .int .i64 (k : Int), .bool (decide ((k : Int) < (S.pending.length : Int))), q7.e, q7.f⟩ := ⟨_, rfl⟩
    obtain ⟨qz901714, hqz901714⟩ : ∃ q_ : V8, q_ = ⟨q7.g, q7.h, q8.a, q8.b, q8.c, q8.d, q8.e, q8.f⟩ := ⟨_, rfl⟩
    obtain ⟨qz901715, hqz901715⟩ : ∃ q_ : V8, q_ = ⟨q8.g, q8.h, q9.a, q9.b, q9.c, q9.d, q9.e, q9.f⟩ := ⟨_, rfl⟩
    obtain ⟨qz901716, hqz901716⟩ : ∃ q_ : V8, q_ = ⟨q9.g, q9.h, q10.a, q10.b, q10.c, q10.d, q10.e, q10.f⟩ := ⟨_, rfl⟩
    obtain ⟨qz901717, hqz901717⟩ : ∃ q_ : V8, q_ = ⟨q10.g, q10.h, q11.a, q11.b, q11.c, q11.d, q11.e, .pointer (some ⟨D, 0, none⟩)⟩ := ⟨_, rfl⟩
    refine fr_at (l' := (V8.l qz901712 (V8.l qz901713 (V8.l qz901714 (V8.l qz901715 (V8.l qz901716 (V8.l qz901717 (.pointer (some ⟨D, 0, none⟩) :: .pointer (some ⟨D, 2, none⟩) :: [])))))))) (by subst hqz901712 hqz901713 hqz901714 hqz901715 hqz901716 hqz901717; rfl) ?_
    refine c_end (.tuple #[]) (r_none rfl) ?_
    replace HS := HS.nil kWr rfl 78
    have e1 : S.settle mask = { S with stable := T, pending := [] } := by unfold Dk.settle; rw [← hI1]; rfl
    rw [e1]
    refine ⟨.slice none 0 0, rfl, ?_⟩
    show St _ _ _ (blk D [.slice (some ⟨gs, 0, none⟩) T.length T.length, _, _, _, _] _ :: _)
    rw [hTl]
    exact ((((HS.front 4 rfl).drop.front 3 rfl).front 3 rfl).front 3 rfl)
end
end Go.Proofs.Ytenlkobjldhfgaa
set_option linter.unusedVariables false
set_option linter.unusedSimpArgs false
namespace Go.Proofs.Ytenlkobjldhfgaa
open Go.RowKit Go.Proofs.YtenlkobjldhfgaaW.PrintWords Go.Proofs.YtenlkobjldhfgaaW.PrintLast
abbrev U4vdisk5 (l : List Value) : List Value := undef :: undef :: undef :: undef :: l
abbrev U8vdisk5 (l : List Value) : List Value := U4vdisk5 (U4vdisk5 l)
section
variable {w0 W : World} {F : Nat → Prop} {L : List Res} {D gs gm : Nat} {v : Value} {S : Dk}
set_option maxRecDepth 10000 in
theorem sync1_any (HS : St w0 F W L) (k : Nat) : Calls Try.prog 50 #[.int .i64 (k : Int)] W fun e w' => e = .returned (.int .u8 255) ∧ w' = W := by
 refine c_enter Try.func50 rfl 3 rfl [.int .i64 (k : Int), undef, undef] rfl ?_
 refine wp_seq_k (fun K1 hK2 => ?_)
 refine c_region (fun ops4 hops3 => ?_)
 clear hops3
 refine p_run _ (x_assign (.int .u8 0) rfl rfl) rfl ?_
 refine wpList_nil ?_
 refine hK2 _ _ ?_
 refine wp_seq_k (fun K5 hK6 => ?_)
 refine c_region (fun ops8 hops7 => ?_)
 clear hops7
 refine p_run _ (x_assign (.int .u8 255) rfl rfl) rfl ?_
 refine wpList_nil ?_
 refine hK6 _ _ ?_
 refine wp_ret ?_
 try simp only [Exit.inBlock, Exit.then]
 refine c_ret (.int .u8 255) (r_tmp rfl rfl) ?_
 exact ⟨rfl, rfl⟩
def maskOf (keep : List Int) (k : Nat) : Int := keep.getD k 0
theorem keep_get {w : World} {A : Option Addr} {n : Nat} {ps : List Int} (h : (Kd.int .u8).C w A n ps) (j : Nat) (hj : j < ps.length) : ∃ ad, A = some ad ∧ w.cell? (ad.add (j * 1)) = some (.int .u8 (maskOf ps j)) := by
 obtain ⟨ad, e, hc⟩ := h.2.2 (by have := h.1; omega)
 obtain ⟨c, hs, hr, hcell⟩ := hc j _ (List.getElem?_eq_getElem hj)
 refine ⟨ad, e, ?_⟩
 have := hcell 0 (.int .u8 ps[j]) (by rw [show c = [.int .u8 ps[j]] from hr]; rfl)
 unfold maskOf
 rw [List.getD_eq_getElem?_getD, List.getElem?_eq_getElem hj]
 exact this
set_option maxRecDepth 10000 in
theorem crash1_any {X : List Res} {bx : Nat} {A : Option Addr} {c : Nat} {keep : List Int} (HX : St w0 F W (X ++ blk bx [.slice A keep.length c] 24 :: L)) (hC : (Kd.int .u8).C W A keep.length keep) (k : Nat) (hkn : k < 1000000000) : Calls Try.prog 36 #[.int .i64 (k : Int), .pointer (some ⟨bx, 0, none⟩)] W fun e w' => e = .returned (.int .u8 (maskOf keep k)) ∧ w' = W := by
 have HS : St w0 (fun _ => True) W (blk bx [.slice A keep.length c] 24 :: L) := ⟨HX.os, HX.tape, HX.output, HX.kept.mono (fun _ _ => trivial), HX.hs.right, fun _ _ => .inl trivial⟩
 by_cases hlt : k < keep.length
 ·have hb : decide ((k : Int) < (keep.length : Int)) = true := decide_eq_true (by omega)
  obtain ⟨ad, rfl, hcell⟩ := keep_get hC k hlt
  refine c_enter Try.func36 rfl 12 rfl [.int .i64 (k : Int), .pointer (some ⟨bx, 0, none⟩), undef, undef, undef, undef, undef, undef, undef, undef, undef, undef] rfl ?_
  refine wp_seq_k (fun K1 hK2 => ?_)
  refine c_region (fun ops4 hops3 => ?_)
  clear hops3
  refine p_run _ (x_assign (.int .u8 0) rfl rfl) rfl ?_
  refine wpList_nil ?_
  refine hK2 _ _ ?_
  refine wp_seq_k (fun K5 hK6 => ?_)
  refine wp_seq_k (fun K7 hK8 => ?_)
  refine c_region (fun ops10 hops9 => ?_)
  clear hops9
  refine p_run _ (x_move (.int .i64 (k : Int)) rfl rfl) rfl ?_
  refine p_run _ (x_load (.slice (some ad) keep.length c) rfl rfl (bkCell (HS.get (.head _)) 0 _ rfl) (by rfl)) rfl ?_
  refine p_run _ (x_len rfl rfl Try.underlying24) rfl ?_
  refine p_run _ (x_cmp (k := .i64) (m := (k : Int)) (n := (keep.length : Int)) .lss true rfl rfl rfl hb rfl) rfl ?_
  refine wpList_nil ?_
  refine hK8 _ _ ?_
  refine c_true rfl ?_
  refine wp_seq_k (fun K11 hK12 => ?_)
  refine c_region (fun ops14 hops13 => ?_)
  clear hops13
  refine p_run _ (x_load (.slice (some ad) keep.length c) rfl rfl (bkCell (HS.get (.head _)) 0 _ rfl) (by rfl)) rfl ?_
  refine p_run _ (x_move (.int .i64 (k : Int)) rfl rfl) rfl ?_
  refine p_run _ (x_index (A := ad) (j := k * 1) (sz := 1) rfl rfl rfl Try.underlying24 (by kernel_rfl) (by omega) rfl) rfl ?_
  refine p_run (l' := [.int .i64 (k : Int), .pointer (some ⟨bx, 0, none⟩), undef, .int .u8 0, .int .i64 (k : Int), .slice (some ad) keep.length c, .int .i64 (keep.length : Int), .bool true, .slice (some ad) keep.length c, .int .i64 (k : Int), .pointer (some ((ad).add (k * 1))), .int .u8 (maskOf keep k)]) _ (x_load (.int .u8 (maskOf keep k)) rfl rfl hcell (by rfl)) rfl ?_
  refine p_run _ (x_assign (.int .u8 (maskOf keep k)) rfl rfl) rfl ?_
  refine wpList_nil ?_
  refine hK12 _ _ ?_
  refine wp_ret ?_
  try simp only [Exit.inBlock, Exit.then]
  refine c_ret (.int .u8 (maskOf keep k)) (r_tmp rfl rfl) ?_
  exact ⟨rfl, rfl⟩
 ·have hb : decide ((k : Int) < (keep.length : Int)) = false := decide_eq_false (by omega)
  refine c_enter Try.func36 rfl 12 rfl [.int .i64 (k : Int), .pointer (some ⟨bx, 0, none⟩), undef, undef, undef, undef, undef, undef, undef, undef, undef, undef] rfl ?_
  refine wp_seq_k (fun K1 hK2 => ?_)
  refine c_region (fun ops4 hops3 => ?_)
  clear hops3
  refine p_run _ (x_assign (.int .u8 0) rfl rfl) rfl ?_
  refine wpList_nil ?_
  refine hK2 _ _ ?_
  refine wp_seq_k (fun K5 hK6 => ?_)
  refine wp_seq_k (fun K7 hK8 => ?_)
  refine c_region (fun ops10 hops9 => ?_)
  clear hops9
  refine p_run _ (x_move (.int .i64 (k : Int)) rfl rfl) rfl ?_
  refine p_run _ (x_load (.slice A keep.length c) rfl rfl (bkCell (HS.get (.head _)) 0 _ rfl) (by rfl)) rfl ?_
  refine p_run _ (x_len rfl rfl Try.underlying24) rfl ?_
  refine p_run _ (x_cmp (k := .i64) (m := (k : Int)) (n := (keep.length : Int)) .lss false rfl rfl rfl hb rfl) rfl ?_
  refine wpList_nil ?_
  refine hK8 _ _ ?_
  refine c_false rfl ?_
  refine wp_skip ?_
  refine hK6 _ _ ?_
  refine wp_seq_k (fun K11 hK12 => ?_)
  refine c_region (fun ops14 hops13 => ?_)
  clear hops13
  refine p_run _ (x_assign (.int .u8 0) rfl rfl) rfl ?_
  refine wpList_nil ?_
  refine hK12 _ _ ?_
  refine wp_ret ?_
  try simp only [Exit.inBlock, Exit.then]
  refine c_ret (.int .u8 0) (r_tmp rfl rfl) ?_
  exact ⟨by rw [show maskOf keep k = 0 from by unfold maskOf; rw [List.getD_eq_getElem?_getD, List.getElem?_eq_none (by omega)]; rfl], rfl⟩
def Dk.sync (S : Dk) : Dk := if S.acts = true then S.act.settle (fun _ => 255) else S.act
set_option maxRecDepth 10000 in
theorem sync_any (HS : St w0 F W (dsk D gs gm v S L)) (hS : S.ok) (hpn : S.pending.length < 1000000) : Calls Try.prog 32 #[.pointer (some ⟨D, 0, none⟩)] W fun e w' => ∃ v', e = .returned (.int .i64 S.actE) ∧ St w0 F w' (dsk D gs gm v' S.sync L) := by
 have hl : -1 ≤ S.left ∧ S.left < 9223372036854775808 := ⟨hS.2.2.1, hS.2.2.2.1⟩
 rcases ha : S.acts with _ | _
 ·have he : S.actE = 42 := by rw [actE_eq, if_neg (by simp [ha])]
  refine c_enter Try.func32 rfl 11 rfl [.pointer (some ⟨D, 0, none⟩), undef, undef, undef, undef, undef, undef, undef, undef, undef, undef] rfl ?_
  refine wp_seq_k (fun K1 hK2 => ?_)
  refine c_region (fun ops4 hops3 => ?_)
  clear hops3
  refine p_run _ (x_assign (.int .i64 0) rfl rfl) rfl ?_
  refine wpList_nil ?_
  refine hK2 _ _ ?_
  refine wp_seq_k (fun K5 hK6 => ?_)
  refine c_region (fun ops8 hops7 => ?_)
  clear hops7
  refine p_run _ (x_move (.pointer (some ⟨D, 0, none⟩)) rfl rfl) rfl ?_
  refine w_call [.pointer (some ⟨D, 0, none⟩)] Try.func34 (by kernel_rfl) (by rfl) rfl ?_
  replace HS := ((((HS.front 3 rfl).front 3 rfl).front 3 rfl).front 3 rfl)
  refine (act_as HS hl 42 he).mono ?_
  clear HS
  rintro e w9 ⟨rfl, HS⟩
  generalize hS1 : S.act = S1 at HS
  have hS' : S1.ok := hS1 ▸ act_ok hS
  have hpn' : S1.pending.length < 1000000 := by rw [← hS1, act_pending]; exact hpn
  have hm0 : ∀ k : Nat, 0 ≤ (fun _ => 255 : Nat → Int) k ∧ (fun _ => 255 : Nat → Int) k < 256 := fun _ => ⟨by show (0 : Int) ≤ 255; decide, by show (255 : Int) < 256; decide⟩
  refine ⟨_, rfl, ?_⟩
  refine p_run _ (x_assign (.int .i64 42) rfl rfl) rfl ?_
  refine wpList_nil ?_
  refine hK6 _ _ ?_
  refine wp_seq_k (fun K10 hK11 => ?_)
  refine wp_seq_k (fun K12 hK13 => ?_)
  refine c_region (fun ops15 hops14 => ?_)
  clear hops14
  refine p_run _ (x_move (.int .i64 42) rfl rfl) rfl ?_
  refine p_run _ (x_cmp (k := .i64) (m := 42) (n := 0) .eql false rfl rfl rfl (by decide) rfl) rfl ?_
  refine wpList_nil ?_
  refine hK13 _ _ ?_
  refine c_false rfl ?_
  refine wp_skip ?_
  refine hK11 _ _ ?_
  refine wp_seq_k (fun K16 hK17 => ?_)
  refine c_region (fun ops19 hops18 => ?_)
  clear hops18
  refine p_run _ (x_move (.int .i64 42) rfl rfl) rfl ?_
  refine p_run _ (x_assign (.int .i64 42) rfl rfl) rfl ?_
  refine wpList_nil ?_
  refine fr_at (l' := [.pointer (some ⟨D, 0, none⟩), undef, .int .i64 42, .int .i64 42, .pointer (some ⟨D, 0, none⟩), .int .i64 42, .int .i64 42, .bool false, undef, undef, .int .i64 42]) rfl ?_
  refine hK17 _ _ ?_
  refine wp_ret ?_
  try simp only [Exit.inBlock, Exit.then]
  refine c_ret (.int .i64 42) (r_tmp rfl rfl) ?_
  have e1 : S.sync = S1 := by unfold Dk.sync; rw [if_neg (by simp [ha])]; exact hS1
  rw [he, e1]
  exact ⟨v, rfl, ((((HS.front 3 rfl).front 3 rfl).front 3 rfl).front 3 rfl)⟩
 ·have he : S.actE = 0 := by rw [actE_eq, if_pos ha]
  refine c_enter Try.func32 rfl 11 rfl [.pointer (some ⟨D, 0, none⟩), undef, undef, undef, undef, undef, undef, undef, undef, undef, undef] rfl ?_
  refine wp_seq_k (fun K1 hK2 => ?_)
  refine c_region (fun ops4 hops3 => ?_)
  clear hops3
  refine p_run _ (x_assign (.int .i64 0) rfl rfl) rfl ?_
  refine wpList_nil ?_
  refine hK2 _ _ ?_
  refine wp_seq_k (fun K5 hK6 => ?_)
  refine c_region (fun ops8 hops7 => ?_)
  clear hops7
  refine p_run _ (x_move (.pointer (some ⟨D, 0, none⟩)) rfl rfl) rfl ?_
  refine w_call [.pointer (some ⟨D, 0, none⟩)] Try.func34 (by kernel_rfl) (by rfl) rfl ?_
  replace HS := ((((HS.front 3 rfl).front 3 rfl).front 3 rfl).front 3 rfl)
  refine (act_as HS hl 0 he).mono ?_
  clear HS
  rintro e w9 ⟨rfl, HS⟩
  generalize hS1 : S.act = S1 at HS
  have hS' : S1.ok := hS1 ▸ act_ok hS
  have hpn' : S1.pending.length < 1000000 := by rw [← hS1, act_pending]; exact hpn
  have hm0 : ∀ k : Nat, 0 ≤ (fun _ => 255 : Nat → Int) k ∧ (fun _ => 255 : Nat → Int) k < 256 := fun _ => ⟨by show (0 : Int) ≤ 255; decide, by show (255 : Int) < 256; decide⟩
  refine ⟨_, rfl, ?_⟩
  refine p_run _ (x_assign (.int .i64 0) rfl rfl) rfl ?_
  refine wpList_nil ?_
  refine hK6 _ _ ?_
  refine wp_seq_k (fun K10 hK11 => ?_)
  refine wp_seq_k (fun K12 hK13 => ?_)
  refine c_region (fun ops15 hops14 => ?_)
  clear hops14
  refine p_run _ (x_move (.int .i64 0) rfl rfl) rfl ?_
  refine p_run _ (x_cmp (k := .i64) (m := 0) (n := 0) .eql true rfl rfl rfl (by decide) rfl) rfl ?_
  refine wpList_nil ?_
  refine hK13 _ _ ?_
  refine c_true rfl ?_
  refine c_region (fun ops17 hops16 => ?_)
  clear hops16
  refine p_run _ (x_move (.pointer (some ⟨D, 0, none⟩)) rfl rfl) rfl ?_
  refine w_call [.pointer (some ⟨D, 0, none⟩), .func (.func 50) #[] [].toArray] Try.func35 (by kernel_rfl) (by rfl) rfl ?_
  replace HS := ((((HS.front 3 rfl).front 3 rfl).front 3 rfl).front 3 rfl)
  refine (settle_any HS hS' hpn' (fun _ => 255) hm0 50 Try.f50 [] Try.func50 (by kernel_rfl) (by rfl) (fun k w X _ hx => sync1_any hx k)).mono ?_
  clear HS
  rintro e w18 ⟨v', rfl, HS⟩
  generalize hS2 : S1.settle _ = S2 at HS
  refine ⟨_, rfl, ?_⟩
  refine wpList_nil ?_
  refine fr_at (l' := [.pointer (some ⟨D, 0, none⟩), undef, .int .i64 0, .int .i64 0, .pointer (some ⟨D, 0, none⟩), .int .i64 0, .int .i64 0, .bool true, .pointer (some ⟨D, 0, none⟩), .tuple [].toArray, undef]) rfl ?_
  refine hK11 _ _ ?_
  refine wp_seq_k (fun K19 hK20 => ?_)
  refine c_region (fun ops22 hops21 => ?_)
  clear hops21
  refine p_run _ (x_move (.int .i64 0) rfl rfl) rfl ?_
  refine p_run _ (x_assign (.int .i64 0) rfl rfl) rfl ?_
  refine wpList_nil ?_
  refine hK20 _ _ ?_
  refine wp_ret ?_
  try simp only [Exit.inBlock, Exit.then]
  refine c_ret (.int .i64 0) (r_tmp rfl rfl) ?_
  have e1 : S.sync = S2 := by unfold Dk.sync; rw [if_pos ha, hS1]; exact hS2
  rw [he, e1]
  exact ⟨v', rfl, ((((HS.front 3 rfl).front 3 rfl).front 3 rfl).front 3 rfl)⟩
def Dk.crash (S : Dk) (keep : List Int) : Dk := { S.settle (maskOf keep) with left := -1, down := false }
set_option maxRecDepth 10000 in
theorem crash_any (HS : St w0 F W (dsk D gs gm v S L)) (hS : S.ok) (hpn : S.pending.length < 1000000) {A : Option Addr} {c : Nat} (keep : List Int) (hk0 : ∀ z ∈ keep, 0 ≤ z ∧ z < 256) (hkeep : ∀ w X, St w0 F w (X ++ L) → (Kd.int .u8).C w A keep.length keep) : Calls Try.prog 17 #[.pointer (some ⟨D, 0, none⟩), .slice A keep.length c] W fun e w' => ∃ v', e = .returned (.tuple #[]) ∧ St w0 F w' (dsk D gs gm v' (S.crash keep) L) := by
 have hm0 : ∀ k, 0 ≤ maskOf keep k ∧ maskOf keep k < 256 := by
  intro k
  unfold maskOf
  rw [List.getD_eq_getElem?_getD]
  cases h : keep[k]? with
  | none => exact ⟨by decide, by decide⟩
  | some z => exact hk0 z (List.mem_of_getElem? h)
 ·refine c_enter Try.func17 rfl 13 rfl (.pointer (some ⟨D, 0, none⟩) :: .slice A keep.length c :: U8vdisk5 (undef :: undef :: undef :: [])) rfl ?_
  refine wp_seq_k (fun K1 hK2 => ?_)
  refine c_region (fun ops4 hops3 => ?_)
  clear hops3
  refine St.wBox HS (cs := [.slice A keep.length c]) (.slice A keep.length c) rfl rfl ?_
  clear HS
  intro g5 w6 hg7 HS
  refine wpList_nil ?_
  refine hK2 _ _ ?_
  refine wp_seq_k (fun K8 hK9 => ?_)
  refine c_region (fun ops11 hops10 => ?_)
  clear hops10
  refine p_run _ (x_move (.pointer (some ⟨D, 0, none⟩)) rfl rfl) rfl ?_
  refine p_run _ (x_funcs [.pointer (some ⟨g5, 0, none⟩)] rfl rfl) rfl ?_
  refine w_call [.pointer (some ⟨D, 0, none⟩), .func (.func 36) #[] [.pointer (some ⟨g5, 0, none⟩)].toArray] Try.func35 (by kernel_rfl) (by rfl) rfl ?_
  replace HS := ((((HS.front 4 rfl).front 4 rfl).front 4 rfl).front 4 rfl)
  have hS' := hS
  have hpn' := hpn
  refine (settle_any HS hS' hpn' (maskOf keep) hm0 36 Try.f36 [.pointer (some ⟨g5, 0, none⟩)] Try.func36 (by kernel_rfl) (by rfl) (fun k w X hk hx => crash1_any hx (hkeep w (X ++ [_]) (by rw [List.append_assoc]; exact hx)) k (by omega))).mono ?_
  clear HS
  rintro e w12 ⟨v', rfl, HS⟩
  generalize hS2 : S.settle _ = S2 at HS
  refine ⟨_, rfl, ?_⟩
  refine wpList_nil ?_
  refine hK9 _ _ ?_
  refine c_region (fun ops14 hops13 => ?_)
  clear hops13
  refine p_run _ (x_move (.pointer (some ⟨D, 0, none⟩)) rfl rfl) rfl ?_
  refine p_run _ (x_move (.pointer (some ⟨D, 0, none⟩)) rfl rfl) rfl ?_
  refine p_run _ (x_nil rfl rfl) rfl ?_
  refine p_run _ (x_field (j := 3) _ _ rfl rfl Try.underlying72 rfl (by rfl) rfl) rfl ?_
  refine St.store (cs' := [.slice (some ⟨gs, 0, none⟩) S2.stable.length S2.stable.length, .map (some gm), v', .int .i64 (-1), .bool S2.down]) HS (.int .i64 (-1)) rfl rfl rfl (by kernel_rfl) (by rfl) rfl ?_
  clear HS
  intro w15 HS
  refine p_run (l' := (.pointer (some ⟨D, 0, none⟩) :: .slice A keep.length c :: undef :: .pointer (some ⟨g5, 0, none⟩) :: .pointer (some ⟨D, 0, none⟩) :: .func (.func 36) #[] [.pointer (some ⟨g5, 0, none⟩)].toArray :: .tuple [].toArray :: .pointer (some ⟨D, 0, none⟩) :: .pointer (some ⟨D, 0, none⟩) :: .pointer (some ⟨D, 0, none⟩) :: .pointer (some ⟨D, 3, none⟩) :: .pointer (some ⟨D, 0, none⟩) :: undef :: [])) _ (x_nil rfl rfl) rfl ?_
  refine p_run _ (x_field (j := 4) _ _ rfl rfl Try.underlying72 rfl (by rfl) rfl) rfl ?_
  refine St.store (cs' := [.slice (some ⟨gs, 0, none⟩) S2.stable.length S2.stable.length, .map (some gm), v', .int .i64 (-1), .bool false]) HS (.bool false) rfl rfl rfl (by kernel_rfl) (by rfl) rfl ?_
  clear HS
  intro w16 HS
  refine wpList_nil ?_
  obtain ⟨qz17, hqz17⟩ : ∃ q_ : V8, q_ = ⟨.pointer (some ⟨D, 0, none⟩), .slice A keep.length c, undef, .pointer (some ⟨g5, 0, none⟩), .pointer (some ⟨D, 0, none⟩), .func (.func 36) #[] [.pointer (some ⟨g5, 0, none⟩)].toArray, .tuple [].toArray, .pointer (some ⟨D, 0, none⟩)⟩ := ⟨_, rfl⟩
  refine fr_at (l' := (V8.l qz17 (.pointer (some ⟨D, 0, none⟩) :: .pointer (some ⟨D, 0, none⟩) :: .pointer (some ⟨D, 3, none⟩) :: .pointer (some ⟨D, 0, none⟩) :: .pointer (some ⟨D, 4, none⟩) :: []))) (by subst hqz17; rfl) ?_
  refine c_end (.tuple #[]) (r_none rfl) ?_
  have e1 : S.crash keep = { S2 with left := -1, down := false } := by unfold Dk.crash; rw [hS2]
  rw [e1]
  exact ⟨v', rfl, (((((HS.front 4 rfl).drop.front 3 rfl).front 3 rfl).front 3 rfl).front 3 rfl)⟩
def nOf (pages : Int) : Nat := if pages < 0 then 0 else if 244 < pages then 244 else pages.toNat
def Dk.new (pages : Int) : Dk := { stable := List.replicate (nOf pages) zpg, bad := fun _ => 0, pending := [], left := -1, down := false, cnt := 0 }
theorem nOf_le (pages : Int) : nOf pages ≤ 244 := by unfold nOf; split <;> (try split) <;> omega
theorem made_pgs (n : Nat) : (madeCells (Value.agg (nums .u8 zpg).toArray).cells (n * 256)).toList = pgs (List.replicate n zpg) := by
 have h1 : (madeCells (Value.agg (nums .u8 zpg).toArray).cells (n * 256)).toList = List.replicate (n * 256) (.int .u8 0) := by
  rw [List.eq_replicate_iff]
  refine ⟨by simp [size_madeCells], fun x hx => ?_⟩
  unfold madeCells at hx
  simp only [Array.toList_map, List.mem_map] at hx
  obtain ⟨i, -, rfl⟩ := hx
  have hz : (Value.agg (nums .u8 zpg).toArray).cells = (nums .u8 zpg).toArray := rfl
  have hs : (nums .u8 zpg).toArray.size = 256 := by rw [List.size_toArray, nums_length, zlen]
  rw [hz, hs]
  have hlt : i % 256 < (nums .u8 zpg).toArray.size := by rw [hs]; omega
  rw [getElem!_pos (nums .u8 zpg).toArray (i % 256) hlt]
  simp only [List.getElem_toArray, nums, List.getElem_map, zpg, List.getElem_replicate]
 rw [h1]
 have h2 : pgs (List.replicate n zpg) = List.replicate (n * 256) (.int .u8 0) := by
  rw [List.eq_replicate_iff]
  refine ⟨by rw [pgs_length _ (fun p hp => by rw [(List.mem_replicate.1 hp).2]; exact zlen), List.length_replicate], fun x hx => ?_⟩
  unfold pgs at hx
  obtain ⟨p, hp, hx⟩ := List.mem_flatMap.1 hx
  rw [(List.mem_replicate.1 hp).2] at hx
  unfold nums zpg at hx
  obtain ⟨y, hy, rfl⟩ := List.mem_map.1 hx
  rw [(List.mem_replicate.1 hy).2]
 rw [h2]
theorem new_ok (pages : Int) : (Dk.new pages).ok := by
 refine ⟨fun p hp => ?_, ?_, by show (-1 : Int) ≤ -1; omega, by show (-1 : Int) < _; omega, fun x hx => by cases hx⟩
 ·have : p ∈ List.replicate (nOf pages) zpg := hp
  rw [(List.mem_replicate.1 this).2]; exact zlen
 ·show (List.replicate (nOf pages) zpg).length ≤ 244
  rw [List.length_replicate]; exact nOf_le pages
theorem max_n (pages : Int) : (if (if 244 < pages then 244 else pages) > (0 : Int) then (if 244 < pages then 244 else pages) else 0) = (nOf pages : Int) := by
 unfold nOf
 split <;> split <;> (try split) <;> omega
set_option maxRecDepth 10000 in
theorem dnew_any (HS : St w0 F W L) (pages : Int) : Calls Try.prog 8 #[.int .i64 pages] W fun e w' => ∃ D gs gm, e = .returned (.pointer (some ⟨D, 0, none⟩)) ∧ St w0 F w' (dsk D gs gm (.slice none 0 0) (Dk.new pages) L) := by
 have hnl := nOf_le pages
 ·refine c_enter Try.func8 rfl 10 rfl [.int .i64 pages, undef, undef, undef, undef, undef, undef, undef, undef, undef] rfl ?_
  refine wp_seq_k (fun K1 hK2 => ?_)
  refine c_region (fun ops4 hops3 => ?_)
  clear hops3
  refine p_run _ (x_assign (.pointer none) rfl rfl) rfl ?_
  refine wpList_nil ?_
  refine hK2 _ _ ?_
  refine wp_seq_k (fun K5 hK6 => ?_)
  refine c_region (fun ops8 hops7 => ?_)
  clear hops7
  refine p_run _ (x_move (.int .i64 pages) rfl rfl) rfl ?_
  refine p_run _ (x_min (m := pages) (n := 244) (if 244 < pages then 244 else pages) rfl rfl rfl rfl) rfl ?_
  refine p_run _ (x_max (m := 0) (n := if 244 < pages then 244 else pages) ((nOf pages : Int)) rfl rfl rfl (max_n pages)) rfl ?_
  refine St.wMake HS (n := (nOf pages)) (bytes := 256) (.agg ((nums .u8 zpg)).toArray) 256 Try.underlying49 (by kernel_rfl) rfl rfl (by omega) (by omega) ?_
  clear HS
  intro g9 w10 hg11 HS
  rw [made_pgs] at HS
  refine St.mapMake HS ?_
  clear HS
  intro g12 w13 hg14 HS
  refine p_run _ (x_build [.slice (some ⟨g9, 0, none⟩) (nOf pages) (nOf pages), .map (some g12), .slice none 0 0, .int .i64 (-1), .bool false] rfl (by kernel_rfl)) rfl ?_
  refine St.wBox HS (cs := [.slice (some ⟨g9, 0, none⟩) (nOf pages) (nOf pages), .map (some g12), .slice none 0 0, .int .i64 (-1), .bool false]) (.agg ([.slice (some ⟨g9, 0, none⟩) (nOf pages) (nOf pages), .map (some g12), .slice none 0 0, .int .i64 (-1), .bool false] : List Value).toArray) rfl rfl ?_
  clear HS
  intro g15 w16 hg17 HS
  refine p_run (l' := [.int .i64 pages, undef, .pointer (some ⟨g15, 0, none⟩), .int .i64 pages, .int .i64 (if 244 < pages then 244 else pages), .int .i64 (nOf pages : Int), .slice (some ⟨g9, 0, none⟩) (nOf pages) (nOf pages), .map (some g12), .agg ([.slice (some ⟨g9, 0, none⟩) (nOf pages) (nOf pages), .map (some g12), .slice none 0 0, .int .i64 (-1), .bool false] : List Value).toArray, .pointer (some ⟨g15, 0, none⟩)]) _ (x_assign (.pointer (some ⟨g15, 0, none⟩)) rfl rfl) rfl ?_
  refine wpList_nil ?_
  refine hK6 _ _ ?_
  refine wp_ret ?_
  try simp only [Exit.inBlock, Exit.then]
  refine c_ret (.pointer (some ⟨g15, 0, none⟩)) (r_tmp rfl rfl) ?_
  replace HS := HS.nil kWr rfl 78
  refine ⟨g15, g9, g12, rfl, ?_⟩
  have e1 : (Dk.new pages).stable.length = nOf pages := List.length_replicate
  show St _ _ _ (blk _ [.slice _ (Dk.new pages).stable.length (Dk.new pages).stable.length, _, _, _, _] _ :: _)
  rw [e1]
  exact (((HS.front 2 rfl).front 3 rfl).front 3 rfl)
end
end Go.Proofs.Ytenlkobjldhfgaa
