/- States as bytes, plain. -/
import Derived.Test.YtkiiangookibnaaZRecordTellsLeN
import Derived.Test.YtkiiangookibnaaZRecordTellsPut
import Derived.Test.YtkiiangookibnaaZRecordTellsShRT
import Derived.Test.YtkiiangookibnaaZRecordTellsFlat
import Derived.Test.YtkiiangookibnaaZRecordTellsByWO
set_option linter.unusedVariables false
set_option linter.unusedSimpArgs false
namespace Go.Proofs.Ytkiiangookibnaa
open Go.RowKit Go.Proofs.YtkiiangookibnaaW.PrintWords Go.Proofs.YtkiiangookibnaaW.PrintLast
structure V8 where
  a : Value
  b : Value
  c : Value
  d : Value
  e : Value
  f : Value
  g : Value
  h : Value
abbrev V8.l (q : V8) (t : List Value) : List Value := q.a :: q.b :: q.c :: q.d :: q.e :: q.f :: q.g :: q.h :: t
def u32 (x : Int) : Prop := 0 ≤ x ∧ x < 4294967296
def i64 (x : Int) : Prop := -9223372036854775808 ≤ x ∧ x < 9223372036854775808
def lbOk (a b : Int) : Bool := decide (a ≤ 1048576) && decide (b ≤ 1048576)
def nB (W : Nat) (x : Int) : List UInt8 := leB W x.toNat
theorem nB_len (W : Nat) (x : Int) : (nB W x).length = W := leB_length W _
def rdL {α : Type} (f : Rs → α × Rs) : Nat → Rs → List α × Rs
  | 0, s => ([], s)
  | n + 1, s => ((rdL f n s).1 ++ [(f (rdL f n s).2).1], (f (rdL f n s).2).2)
def upN (x : Int) (n : Nat) : Nat := min x.toNat n
theorem flat_len {α : Type} {f : α → List UInt8} {n : Nat} : ∀ (l : List α), (∀ x ∈ l, (f x).length = n) → (l.flatMap f).length = n * l.length
  | [], _ => rfl
  | x :: l, h => by rw [List.flatMap_cons, List.length_append, h x List.mem_cons_self, flat_len l (fun y hy => h y (List.mem_cons_of_mem _ hy)), List.length_cons, Nat.mul_succ]; omega
abbrev Sn : Type := Int × Int × Int × Int
structure Rc where
  e : Int
  p : Bool
  b : Int
  q : Int
  l : Int
  xe : Int
  xq : Int
  sn : List Sn
  s : Int
  te : Int
  tq : Int
  be : Int
  bq : Int
  nx : Int
  tt : Int
  rt : Int
structure Rc.wf (r : Rc) : Prop where
  e : u32 r.e
  b : u32 r.b
  q : u32 r.q
  l : i64 r.l
  xe : u32 r.xe
  xq : u32 r.xq
  s : 0 ≤ r.s ∧ r.s < 18446744073709551616
  te : u32 r.te
  tq : u32 r.tq
  be : u32 r.be
  bq : u32 r.bq
  nx : i64 r.nx
  tt : i64 r.tt
  rt : i64 r.rt
  sn : ∀ x ∈ r.sn, u32 x.1 ∧ u32 x.2.1 ∧ i64 x.2.2.1 ∧ u32 x.2.2.2
def rtOk (x : Int) : Bool := decide (-1 ≤ x) && decide (x < 240)
def ltL (a b c d : Int) : Bool := decide (a < c ∨ (a = c ∧ b < d))
def snOk : Int → Int → List Sn → Bool
  | _, _, [] => true
  | a, b, x :: l => lbOk x.1 x.2.1 && ltL a b x.1 x.2.1 && rtOk x.2.2.1 && snOk x.1 x.2.1 l
def snHas (a b : Int) (l : List Sn) : Bool := l.any fun x => decide (x.1 = a ∧ x.2.1 = b)
def snsOk (a b : Int) (l : List Sn) : Bool := decide (l.length ≤ 8) && (snOk 0 0 l && (decide (a = 0 ∧ b = 0) || snHas a b l))
def sgNone (s te tq be bq nx tt rt : Int) : Bool := decide (s = 0 ∧ (te = 0 ∧ tq = 0) ∧ (be = 0 ∧ bq = 0) ∧ nx = 0 ∧ tt = 0 ∧ rt = -1)
def sgGood (te tq be bq nx tt rt : Int) : Bool := (((((((lbOk te tq && !(decide (te = 0 ∧ tq = 0))) && lbOk be bq) && decide (tt ≥ 1)) && decide (tt ≤ 64)) && decide (nx ≥ 0)) && decide (nx < tt)) && rtOk rt)
def sgOk (s te tq be bq nx tt rt : Int) : Bool := sgNone s te tq be bq nx tt rt || sgGood te tq be bq nx tt rt
def nmRc (r : Rc) : Bool := ((decide (r.e ≥ 1) && decide (r.e ≤ 1048576)) && decide (r.b ≤ 1073741824)) && decide (r.q ≤ 1048576)
def rcOk (r : Rc) : Bool := ((nmRc r && rtOk r.l) && snsOk r.xe r.xq r.sn) && sgOk r.s r.te r.tq r.be r.bq r.nx r.tt r.rt
def snB (x : Sn) : List UInt8 := nB 4 x.1 ++ (nB 4 x.2.1 ++ (nB 1 (x.2.2.1 + 1) ++ nB 4 x.2.2.2))
def rcB (r : Rc) : List UInt8 := nB 4 r.e ++ (nB 1 (if r.p then 1 else 0) ++ (nB 4 r.b ++ (nB 4 r.q ++ (nB 1 (r.l + 1) ++ (nB 4 r.xe ++ (nB 4 r.xq ++ (nB 1 (r.sn.length : Int) ++ (r.sn.flatMap snB ++ (nB 8 r.s ++ (nB 4 r.te ++ (nB 4 r.tq ++ (nB 4 r.be ++ (nB 4 r.bq ++ (nB 1 r.nx ++ (nB 1 r.tt ++ nB 1 (r.rt + 1))))))))))))))))
theorem snB_len (x : Sn) : (snB x).length = 13 := by unfold snB; simp [nB_len]
theorem rcB_len (r : Rc) : (rcB r).length = 50 + 13 * r.sn.length := by
  unfold rcB
  simp only [List.length_append, nB_len, flat_len r.sn (fun x _ => snB_len x)]
  omega
def rdSn (s : Rs) : Sn × Rs := ((rn 4 s, rn 4 (rs 4 s), rn 1 (rs 4 (rs 4 s)) - 1, rn 4 (rs 1 (rs 4 (rs 4 s)))), rs 4 (rs 1 (rs 4 (rs 4 s))))
def k1 (xs : List UInt8) : Rs := rs 4 (xs, false)
def k2 (xs : List UInt8) : Rs := rs 1 (k1 xs)
def k3 (xs : List UInt8) : Rs := rs 4 (k2 xs)
def k4 (xs : List UInt8) : Rs := rs 4 (k3 xs)
def k5 (xs : List UInt8) : Rs := rs 1 (k4 xs)
def k6 (xs : List UInt8) : Rs := rs 4 (k5 xs)
def k7 (xs : List UInt8) : Rs := rs 4 (k6 xs)
def k8 (xs : List UInt8) : Rs := rs 1 (k7 xs)
def nSn (xs : List UInt8) : Nat := upN (rn 1 (k7 xs)) 8
def kS (xs : List UInt8) (j : Nat) : List Sn × Rs := rdL rdSn j (k8 xs)
def kE (xs : List UInt8) : Rs := (kS xs (nSn xs)).2
def k9 (xs : List UInt8) : Rs := rs 8 (kE xs)
def k10 (xs : List UInt8) : Rs := rs 4 (k9 xs)
def k11 (xs : List UInt8) : Rs := rs 4 (k10 xs)
def k12 (xs : List UInt8) : Rs := rs 4 (k11 xs)
def k13 (xs : List UInt8) : Rs := rs 4 (k12 xs)
def k14 (xs : List UInt8) : Rs := rs 1 (k13 xs)
def k15 (xs : List UInt8) : Rs := rs 1 (k14 xs)
def k16 (xs : List UInt8) : Rs := rs 1 (k15 xs)
def rdR (xs : List UInt8) : Rc := ⟨rn 4 (xs, false), rn 1 (k1 xs) == 1, rn 4 (k2 xs), rn 4 (k3 xs), rn 1 (k4 xs) - 1, rn 4 (k5 xs), rn 4 (k6 xs), (kS xs (nSn xs)).1, rn 8 (kE xs), rn 4 (k9 xs), rn 4 (k10 xs), rn 4 (k11 xs), rn 4 (k12 xs), rn 1 (k13 xs), rn 1 (k14 xs), rn 1 (k15 xs) - 1⟩
def rkOk (b : List UInt8) : Bool := rcOk (rdR b) && decide (rcB (rdR b) = b)
def zRc : Rc := ⟨0, false, 0, 0, 0, 0, 0, [], 0, 0, 0, 0, 0, 0, 0, 0⟩
def rkM (b : List UInt8) : Rc := if rkOk b = true then rdR b else zRc
def rkE (b : List UInt8) : Int := if rkOk b = true then 0 else 141
def bB (r : Rc) : List UInt8 := if rcOk r = true then rcB r else []
def bE (r : Rc) : Int := if rcOk r = true then 0 else 141
theorem rk_yes {b : List UInt8} (h : rkOk b = true) : rkM b = rdR b ∧ rkE b = 0 := ⟨if_pos h, if_pos h⟩
theorem rk_no {b : List UInt8} (h : rkOk b = false) : rkM b = zRc ∧ rkE b = 141 := ⟨if_neg (by rw [h]; decide), if_neg (by rw [h]; decide)⟩
theorem bb_yes {m : Rc} (h : rcOk m = true) : bB m = rcB m ∧ bE m = 0 := ⟨if_pos h, if_pos h⟩
theorem bb_no {m : Rc} (h : rcOk m = false) : bB m = [] ∧ bE m = 141 := ⟨if_neg (by rw [h]; decide), if_neg (by rw [h]; decide)⟩
theorem rc_no {m : Rc} (h : rcOk m = true → False) : rcOk m = false := by
  rcases hb : rcOk m with _ | _
  · rfl
  · exact (h hb).elim
theorem rdL_len {α : Type} (f : Rs → α × Rs) : ∀ (n : Nat) (s : Rs), (rdL f n s).1.length = n
  | 0, _ => rfl
  | n + 1, s => by unfold rdL; rw [List.length_append, rdL_len f n s]; rfl
theorem rdL_mem {α : Type} {f : Rs → α × Rs} {p : α → Prop} (h : ∀ s, p (f s).1) : ∀ (n : Nat) (s : Rs), ∀ x ∈ (rdL f n s).1, p x
  | 0, _, x, hx => by cases hx
  | n + 1, s, x, hx => by
    unfold rdL at hx
    rcases List.mem_append.1 hx with hx | hx
    · exact rdL_mem h n s x hx
    · obtain rfl := List.mem_singleton.1 hx
      exact h _
theorem pow_cast' (W : Nat) : ((256 ^ W : Nat) : Int) = (256 : Int) ^ W := Int.natCast_pow 256 W
theorem rn_bd (W : Nat) (hW : W ≤ 8) (s : Rs) : 0 ≤ rn (W : Int) s ∧ rn (W : Int) s < 256 ^ W := by
  have hl : (takeOut s.1 (s.2 || !wideB (W : Int)) (W : Int)).length ≤ W := by
    unfold takeOut
    split
    · simp
    · rw [List.length_take]; omega
  unfold rn
  rw [numB_eq _ (by omega)]
  have h1 := leN_lt (takeOut s.1 (s.2 || !wideB (W : Int)) (W : Int))
  have h2 : 256 ^ (takeOut s.1 (s.2 || !wideB (W : Int)) (W : Int)).length ≤ 256 ^ W := Nat.pow_le_pow_right (by decide) hl
  rw [← pow_cast']
  omega
theorem bd8 (s : Rs) : 0 ≤ rn 8 s ∧ rn 8 s < 18446744073709551616 := rn_bd 8 (by decide) s
theorem bd4 (s : Rs) : 0 ≤ rn 4 s ∧ rn 4 s < 4294967296 := rn_bd 4 (by decide) s
theorem bd1 (s : Rs) : 0 ≤ rn 1 s ∧ rn 1 s < 256 := rn_bd 1 (by decide) s
theorem wu32 {x : Int} (h : 0 ≤ x ∧ x < 4294967296) : IntKind.u32.wrap x = x := by rw [IntKind.wrap_u32]; omega
theorem wru64 {x : Int} (h : 0 ≤ x ∧ x < 18446744073709551616) : IntKind.u64.wrap x = x := by rw [IntKind.wrap_u64]; omega
theorem nSn_le (xs : List UInt8) : nSn xs ≤ 8 := Nat.min_le_right _ _
theorem mn_u {x : Int} (n : Nat) (h : 0 ≤ x) : (if (n : Int) < x then (n : Int) else x) = ((upN x n : Nat) : Int) := by
  unfold upN
  split <;> omega
theorem kS_len (xs : List UInt8) (j : Nat) : (kS xs j).1.length = j := rdL_len _ _ _
theorem b1_i64 (s : Rs) : i64 (rn 1 s) := by have := bd1 s; exact ⟨by omega, by omega⟩
theorem b1_pg (s : Rs) : i64 (rn 1 s - 1) := by have := bd1 s; exact ⟨by omega, by omega⟩
theorem b4_u32 (s : Rs) : u32 (rn 4 s) := bd4 s
set_option maxHeartbeats 4000000 in
theorem rdR_wf (xs : List UInt8) : (rdR xs).wf := by
  have hsn : ∀ x ∈ (rdL rdSn (nSn xs) (k8 xs)).1, u32 x.1 ∧ u32 x.2.1 ∧ i64 x.2.2.1 ∧ u32 x.2.2.2 := rdL_mem (f := rdSn) (p := fun (x : Sn) => u32 x.1 ∧ u32 x.2.1 ∧ i64 x.2.2.1 ∧ u32 x.2.2.2) (fun s => ⟨b4_u32 _, b4_u32 _, b1_pg _, b4_u32 _⟩) _ _
  unfold rdR
  constructor <;> dsimp only
  · exact b4_u32 _
  · exact b4_u32 _
  · exact b4_u32 _
  · exact b1_pg _
  · exact b4_u32 _
  · exact b4_u32 _
  · exact bd8 _
  · exact b4_u32 _
  · exact b4_u32 _
  · exact b4_u32 _
  · exact b4_u32 _
  · exact b1_i64 _
  · exact b1_i64 _
  · exact b1_pg _
  · exact hsn
theorem rdR_sn (xs : List UInt8) : (rdR xs).sn.length ≤ 8 := by
  show (kS xs (nSn xs)).1.length ≤ 8
  rw [kS_len]; exact nSn_le xs
theorem rc_of {r : Rc} (h : rcOk r = true) : (1 ≤ r.e ∧ r.e ≤ 1048576) ∧ r.b ≤ 1073741824 ∧ r.q ≤ 1048576 ∧ (-1 ≤ r.l ∧ r.l < 240) ∧ r.sn.length ≤ 8 ∧ snOk 0 0 r.sn = true ∧ (-1 ≤ r.rt ∧ r.rt < 240) ∧ (0 ≤ r.nx ∧ r.nx ≤ 64) ∧ (0 ≤ r.tt ∧ r.tt ≤ 64) := by
  unfold rcOk nmRc snsOk at h
  simp only [Bool.and_eq_true, decide_eq_true_eq] at h
  obtain ⟨⟨⟨⟨⟨⟨h1, h2⟩, h3⟩, h4⟩, h5⟩, h6, h7, -⟩, h8⟩ := h
  unfold rtOk at h5
  simp only [Bool.and_eq_true, decide_eq_true_eq] at h5
  refine ⟨⟨h1, h2⟩, h3, h4, h5, h6, h7, ?_⟩
  unfold sgOk sgNone sgGood rtOk at h8
  simp only [Bool.or_eq_true, Bool.and_eq_true, decide_eq_true_eq] at h8
  rcases h8 with ⟨-, -, -, h, h', h''⟩ | ⟨⟨⟨⟨⟨-, g1⟩, g2⟩, g3⟩, g4⟩, g5, g6⟩ <;> omega
theorem sn_root : ∀ (l : List Sn) (a b : Int), snOk a b l = true → ∀ x ∈ l, -1 ≤ x.2.2.1 ∧ x.2.2.1 < 240
  | y :: l, a, b, h, x, hx => by
    unfold snOk rtOk at h
    simp only [Bool.and_eq_true, decide_eq_true_eq] at h
    rcases List.mem_cons.1 hx with rfl | hx
    · exact h.1.2
    · exact sn_root l _ _ h.2 x hx
theorem bB_le {m : Rc} : (bB m).length ≤ 200 := by
  rcases h : rcOk m with _ | _
  · rw [(bb_no h).1]; exact Nat.zero_le _
  · rw [(bb_yes h).1, rcB_len]; have := (rc_of h).2.2.2.2.1; omega
abbrev snC (x : Sn) : List Value := [.int .u32 x.1, .int .u32 x.2.1, .int .i64 x.2.2.1, .int .u32 x.2.2.2]
def snP (x : Sn) (cs : List Value) : Prop := cs = snC x
def kSn : Kd Sn := flatK 4 snP (fun x cs h => by rw [h]; rfl) (fun x cs h u hu => by
  rw [h] at hu
  simp only [snC, List.mem_cons, List.not_mem_nil, or_false] at hu
  rcases hu with rfl | rfl | rfl | rfl <;> rfl)
theorem sn_get {w : World} {A : Option Addr} {n : Nat} {ps : List Sn} (h : kSn.C w A n ps) (j : Nat) (hj : j < ps.length) : ∃ ad x, A = some ad ∧ ps[j]? = some x ∧ ∀ i u, (snC x)[i]? = some u → w.cell? ((ad.add (j * 4)).add i) = some u := by
  obtain ⟨ad, e, hc⟩ := h.2.2 (by have := h.1; omega)
  obtain ⟨c, hs, hr, hcell⟩ := hc j _ (List.getElem?_eq_getElem hj)
  refine ⟨ad, ps[j], e, List.getElem?_eq_getElem hj, fun i u hu => ?_⟩
  rw [add_add]
  have hr' : c = snC ps[j] := hr
  exact hcell i u (by rw [hr']; exact hu)
theorem sn_cells {w : World} {ad : Addr} {n j : Nat} {ps : List Sn} {x : Sn} (h : kSn.C w (some ad) n ps) (hx : ps[j]? = some x) : ∀ i u, (snC x)[i]? = some u → w.cell? ((ad.add (j * 4)).add i) = some u := by
  obtain ⟨a', y, e, hy, hc⟩ := sn_get h j (List.getElem?_eq_some_iff.1 hx).1
  obtain rfl := Option.some.inj e
  obtain rfl := Option.some.inj (hy.symm.trans hx)
  exact hc
abbrev rcV (r : Rc) (A : Option Addr) (c : Nat) : Value := .agg #[.int .u32 r.e, .bool r.p, .int .u32 r.b, .int .u32 r.q, .int .i64 r.l, .int .u32 r.xe, .int .u32 r.xq, .slice A r.sn.length c, .int .u64 r.s, .int .u32 r.te, .int .u32 r.tq, .int .u32 r.be, .int .u32 r.bq, .int .i64 r.nx, .int .i64 r.tt, .int .i64 r.rt]
def cmp1 (x y : Int) : Int := if x < y then -1 else if y < x then 1 else 0
def orF : List Int → Int
  | [] => 0
  | x :: l => if x = 0 then orF l else x
def cmpL (a b c d : Int) : Int := orF [cmp1 a c, cmp1 b d]
theorem cmpL_le (a b c d : Int) : decide (cmpL a b c d ≤ 0) = !(ltL c d a b) := by
  have h : (cmpL a b c d ≤ 0) ↔ ¬ (c < a ∨ (c = a ∧ d < b)) := by
    unfold cmpL orF orF orF cmp1
    split <;> (repeat' split at *) <;> omega
  unfold ltL
  rw [← decide_not, decide_eq_decide]
  exact h
def rcS (m n : Rc) : Bool := (((((((decide (m.sn = n.sn) && (m.e == n.e)) && (m.p == n.p)) && (m.b == n.b)) && (m.q == n.q)) && (m.l == n.l)) && decide (m.xe = n.xe ∧ m.xq = n.xq)) && decide (m.s = n.s ∧ (m.te = n.te ∧ m.tq = n.tq) ∧ (m.be = n.be ∧ m.bq = n.bq) ∧ m.nx = n.nx ∧ m.tt = n.tt ∧ m.rt = n.rt))
theorem rcS_iff {m n : Rc} : rcS m n = true ↔ m = n := by
  unfold rcS
  simp only [Bool.and_eq_true, decide_eq_true_eq, beq_iff_eq]
  constructor
  · rintro ⟨⟨⟨⟨⟨⟨⟨a, b⟩, c⟩, d⟩, e⟩, f⟩, g, h⟩, i, ⟨j, k⟩, ⟨l, o⟩, p, q, r⟩
    cases m; cases n
    simp only at a b c d e f g h i j k l o p q r
    subst a b c d e f g h i j k l o p q r
    rfl
  · rintro rfl
    simp
theorem rcS_self (m : Rc) : rcS m m = true := rcS_iff.2 rfl
theorem rcS_no {m n : Rc} (h : m = n → False) : rcS m n = false := Bool.eq_false_iff.2 (fun hb => h (rcS_iff.1 hb))
end Go.Proofs.Ytkiiangookibnaa
