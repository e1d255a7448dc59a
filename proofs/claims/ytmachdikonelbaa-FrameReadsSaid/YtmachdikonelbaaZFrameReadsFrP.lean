/- Messages as bytes, plain: what is written is read. -/
import Derived.Test.YtmachdikonelbaaZFrameReadsLeN
import Derived.Test.YtmachdikonelbaaZFrameReadsPut
import Derived.Test.YtmachdikonelbaaZFrameReadsShRT
import Derived.Test.YtmachdikonelbaaZFrameReadsCrcS
set_option linter.unusedVariables false
set_option linter.unusedSimpArgs false
namespace Go.Proofs.Ytmachdikonelbaa
open Go.RowKit Go.Proofs.YtmachdikonelbaaW.PrintWords Go.Proofs.YtmachdikonelbaaW.PrintLast Crc
theorem leN_leB : ∀ (k n : Nat), leN (leB k n) = n % 256 ^ k
  | 0, n => by simp [leN, leB, Nat.mod_one]
  | k + 1, n => by
    unfold leB leN
    rw [leN_leB k, UInt8.toNat_ofNat']
    have e : n % 256 ^ (k + 1) = n % 256 + 256 * (n / 256 % 256 ^ k) := by
      rw [show 256 ^ (k + 1) = 256 * 256 ^ k by rw [Nat.pow_succ, Nat.mul_comm], Nat.mod_mul]
    rw [e]
    omega
abbrev It : Type := Int × Bool × List UInt8
abbrev Hv : Type := Int × Int × Int
structure Mg where
  k : Int
  e : Int
  s : Int
  te : Int
  ts : Int
  be : Int
  bs : Int
  ix : Int
  tt : Int
  tk : Int
  its : List It
  hvs : List Hv
def zB16 : List UInt8 := List.replicate 16 0
def u32 (x : Int) : Prop := 0 ≤ x ∧ x < 4294967296
def i64 (x : Int) : Prop := -9223372036854775808 ≤ x ∧ x < 9223372036854775808
structure Mg.wf (m : Mg) : Prop where
  k : i64 m.k
  e : u32 m.e
  s : 0 ≤ m.s ∧ m.s < 18446744073709551616
  te : u32 m.te
  ts : u32 m.ts
  be : u32 m.be
  bs : u32 m.bs
  ix : i64 m.ix
  tt : i64 m.tt
  tk : u32 m.tk
  its : ∀ x ∈ m.its, i64 x.1 ∧ x.2.2.length = 16
  hvs : ∀ x ∈ m.hvs, u32 x.1 ∧ u32 x.2.1 ∧ u32 x.2.2
def lbOk (a b : Int) : Bool := decide (a ≤ 1048576) && decide (b ≤ 1048576)
def itOk (x : It) : Bool := decide (0 ≤ x.1) && decide (x.1 < 64) && (x.2.1 || decide (x.2.2 = zB16))
def hvOk (x : Hv) : Bool := lbOk x.1 x.2.1
def nmOk (m : Mg) : Bool := (decide (1 ≤ m.k) && decide (m.k ≤ 5)) && (decide (1 ≤ m.e) && decide (m.e ≤ 1048576)) && (decide (0 ≤ m.ix) && decide (m.ix ≤ 64) && decide (0 ≤ m.tt) && decide (m.tt ≤ 64)) && lbOk m.te m.ts && lbOk m.be m.bs
def mgOk (m : Mg) : Bool := nmOk m && decide (m.its.length ≤ 4) && decide (m.hvs.length ≤ 8) && m.its.all itOk && m.hvs.all hvOk && (decide (m.its.length = 0) || decide (m.k = 3)) && (decide (m.hvs.length = 0) || decide (m.k = 2))
def nB (W : Nat) (x : Int) : List UInt8 := leB W x.toNat
theorem nB_len (W : Nat) (x : Int) : (nB W x).length = W := leB_length W _
def itB (x : It) : List UInt8 := nB 1 x.1 ++ (nB 1 (if x.2.1 then 1 else 0) ++ x.2.2)
def hvB (x : Hv) : List UInt8 := nB 4 x.1 ++ (nB 4 x.2.1 ++ nB 4 x.2.2)
def mgB (m : Mg) : List UInt8 := nB 1 m.k ++ (nB 4 m.e ++ (nB 8 m.s ++ (nB 4 m.te ++ (nB 4 m.ts ++ (nB 4 m.be ++ (nB 4 m.bs ++ (nB 1 m.ix ++ (nB 1 m.tt ++ (nB 4 m.tk ++ (nB 1 (m.its.length : Int) ++ (m.its.flatMap itB ++ (nB 1 (m.hvs.length : Int) ++ m.hvs.flatMap hvB))))))))))))
def pad16 (b : List UInt8) : List UInt8 := b ++ List.replicate (16 - b.length) 0
def tkO (s : Rs) : List UInt8 := takeOut s.1 s.2 16
def tkS (s : Rs) : Rs := (takeRest s.1 s.2 16, takeBad s.1 s.2 16)
def rdIt (s : Rs) : It × Rs := ((rn 1 s, decide (rn 1 (rs 1 s) = 1), pad16 (tkO (rs 1 (rs 1 s)))), tkS (rs 1 (rs 1 s)))
def rdHv (s : Rs) : Hv × Rs := ((rn 4 s, rn 4 (rs 4 s), rn 4 (rs 4 (rs 4 s))), rs 4 (rs 4 (rs 4 s)))
def rdL {α : Type} (f : Rs → α × Rs) : Nat → Rs → List α × Rs
  | 0, s => ([], s)
  | n + 1, s => ((rdL f n s).1 ++ [(f (rdL f n s).2).1], (f (rdL f n s).2).2)
def upN (x : Int) (n : Nat) : Nat := min x.toNat n
def rdM (xs : List UInt8) : Mg :=
  let s0 : Rs := (xs, false)
  let s1 := rs 1 s0
  let s2 := rs 4 s1
  let s3 := rs 8 s2
  let s4 := rs 4 s3
  let s5 := rs 4 s4
  let s6 := rs 4 s5
  let s7 := rs 4 s6
  let s8 := rs 1 s7
  let s9 := rs 1 s8
  let s10 := rs 4 s9
  let s11 := rs 1 s10
  let r := rdL rdIt (upN (rn 1 s10) 4) s11
  let s12 := rs 1 r.2
  ⟨rn 1 s0, rn 4 s1, rn 8 s2, rn 4 s3, rn 4 s4, rn 4 s5, rn 4 s6, rn 1 s7, rn 1 s8, rn 4 s9, r.1, (rdL rdHv (upN (rn 1 r.2) 8) s12).1⟩
theorem rn_nB (W : Nat) (hw : wideB (W : Int) = true) (hW : W ≤ 8) {x : Int} (h0 : 0 ≤ x) (h1 : x < 256 ^ W) (r : List UInt8) : rn (W : Int) (nB W x ++ r, false) = x ∧ rs (W : Int) (nB W x ++ r, false) = (r, false) := by
  have hb : takeBad (nB W x ++ r) (false || !wideB (W : Int)) (W : Int) = false := by
    unfold takeBad
    rw [hw, List.length_append, nB_len]
    simp
    omega
  have hn : ((W : Nat) : Int).toNat = W := Int.toNat_natCast W
  have ht : (nB W x ++ r).take W = nB W x := List.take_left' (nB_len W x)
  have hd : (nB W x ++ r).drop W = r := List.drop_left' (nB_len W x)
  refine ⟨?_, ?_⟩
  · unfold rn takeOut
    rw [show (nB W x ++ r, false).2 = false from rfl, hb]
    show numB ((nB W x ++ r).take ((W : Int)).toNat) = x
    rw [hn, ht, numB_eq _ (by rw [nB_len]; exact hW)]
    unfold nB
    rw [leN_leB]
    have hx : x.toNat < 256 ^ W := by
      have h2 : ((256 ^ W : Nat) : Int) = (256 : Int) ^ W := Int.natCast_pow 256 W
      omega
    rw [Nat.mod_eq_of_lt hx]
    omega
  · unfold rs takeRest
    rw [show (nB W x ++ r, false).2 = false from rfl, hb]
    show ((nB W x ++ r).drop ((W : Int)).toNat, false) = (r, false)
    rw [hn, hd]
theorem tk_block {b r : List UInt8} (hb : b.length = 16) : tkO (b ++ r, false) = b ∧ tkS (b ++ r, false) = (r, false) := by
  have h : takeBad (b ++ r) false 16 = false := by
    unfold takeBad
    rw [List.length_append, hb]
    simp
    omega
  unfold tkO tkS takeOut takeRest
  rw [show (b ++ r, false).2 = false from rfl, h]
  refine ⟨?_, ?_⟩
  · show (b ++ r).take 16 = b
    exact List.take_left' hb
  · show ((b ++ r).drop 16, false) = (r, false)
    rw [List.drop_left' hb]
theorem pad_full {b : List UInt8} (h : b.length = 16) : pad16 b = b := by unfold pad16; rw [h]; simp
theorem rd_it {x : It} (hw : i64 x.1 ∧ x.2.2.length = 16) (hok : itOk x = true) (r : List UInt8) : rdIt (itB x ++ r, false) = (x, (r, false)) := by
  unfold itOk at hok
  simp only [Bool.and_eq_true, decide_eq_true_eq] at hok
  unfold itB rdIt
  simp only [List.append_assoc]
  obtain ⟨a1, a2⟩ := rn_nB 1 (by decide) (by decide) hok.1.1 (show x.1 < 256 ^ 1 by have := hok.1.2; omega) (nB 1 (if x.2.1 = true then 1 else 0) ++ (x.2.2 ++ r))
  obtain ⟨b1, b2⟩ := rn_nB 1 (by decide) (by decide) (show (0 : Int) ≤ (if x.2.1 = true then 1 else 0) by split <;> decide) (show (if x.2.1 = true then (1 : Int) else 0) < 256 ^ 1 by split <;> decide) (x.2.2 ++ r)
  obtain ⟨c1, c2⟩ := tk_block (r := r) hw.2
  have a1' : rn 1 (nB 1 x.1 ++ (nB 1 (if x.2.1 = true then 1 else 0) ++ (x.2.2 ++ r)), false) = x.1 := a1
  have a2' : rs 1 (nB 1 x.1 ++ (nB 1 (if x.2.1 = true then 1 else 0) ++ (x.2.2 ++ r)), false) = _ := a2
  have b1' : rn 1 (nB 1 (if x.2.1 = true then 1 else 0) ++ (x.2.2 ++ r), false) = _ := b1
  have b2' : rs 1 (nB 1 (if x.2.1 = true then 1 else 0) ++ (x.2.2 ++ r), false) = _ := b2
  rw [a1', a2', b1', b2', c1, c2, pad_full hw.2]
  obtain ⟨x1, x2, x3⟩ := x
  cases x2 <;> rfl
theorem rd_hv {x : Hv} (hw : u32 x.1 ∧ u32 x.2.1 ∧ u32 x.2.2) (r : List UInt8) : rdHv (hvB x ++ r, false) = (x, (r, false)) := by
  obtain ⟨⟨p1, p2⟩, ⟨p3, p4⟩, p5, p6⟩ := hw
  unfold hvB rdHv
  simp only [List.append_assoc]
  obtain ⟨a1, a2⟩ := rn_nB 4 (by decide) (by decide) p1 (show x.1 < 256 ^ 4 by omega) (nB 4 x.2.1 ++ (nB 4 x.2.2 ++ r))
  obtain ⟨b1, b2⟩ := rn_nB 4 (by decide) (by decide) p3 (show x.2.1 < 256 ^ 4 by omega) (nB 4 x.2.2 ++ r)
  obtain ⟨c1, c2⟩ := rn_nB 4 (by decide) (by decide) p5 (show x.2.2 < 256 ^ 4 by omega) r
  have a1' : rn 4 (nB 4 x.1 ++ (nB 4 x.2.1 ++ (nB 4 x.2.2 ++ r)), false) = _ := a1
  have a2' : rs 4 (nB 4 x.1 ++ (nB 4 x.2.1 ++ (nB 4 x.2.2 ++ r)), false) = _ := a2
  have b1' : rn 4 (nB 4 x.2.1 ++ (nB 4 x.2.2 ++ r), false) = _ := b1
  have b2' : rs 4 (nB 4 x.2.1 ++ (nB 4 x.2.2 ++ r), false) = _ := b2
  have c1' : rn 4 (nB 4 x.2.2 ++ r, false) = _ := c1
  have c2' : rs 4 (nB 4 x.2.2 ++ r, false) = _ := c2
  rw [a1', a2', b1', b2', c1', c2']
theorem rd_all {α : Type} {f : Rs → α × Rs} {g : α → List UInt8} : ∀ (l : List α) (r : List UInt8), (∀ x ∈ l, ∀ r, f (g x ++ r, false) = (x, (r, false))) → ∀ k, k ≤ l.length → rdL f k (l.flatMap g ++ r, false) = (l.take k, ((l.drop k).flatMap g ++ r, false))
  | l, r, h, 0, _ => by simp [rdL]
  | l, r, h, k + 1, hk => by
    have ih := rd_all l r h k (by omega)
    unfold rdL
    rw [ih]
    have e : l.drop k = l[k] :: l.drop (k + 1) := List.drop_eq_getElem_cons (by omega)
    rw [e, List.flatMap_cons, List.append_assoc, h l[k] (List.getElem_mem _) _, List.take_succ_eq_append_getElem (by omega)]
theorem nm_of {m : Mg} (h : mgOk m = true) : (1 ≤ m.k ∧ m.k ≤ 5) ∧ (1 ≤ m.e ∧ m.e ≤ 1048576) ∧ (0 ≤ m.ix ∧ m.ix ≤ 64 ∧ 0 ≤ m.tt ∧ m.tt ≤ 64) ∧ m.its.length ≤ 4 ∧ m.hvs.length ≤ 8 ∧ (∀ x ∈ m.its, itOk x = true) ∧ (∀ x ∈ m.hvs, hvOk x = true) := by
  unfold mgOk nmOk at h
  simp only [Bool.and_eq_true, decide_eq_true_eq, List.all_eq_true] at h
  obtain ⟨⟨⟨⟨⟨⟨nm, h9⟩, h10⟩, h11⟩, h12⟩, -⟩, -⟩ := h
  obtain ⟨⟨⟨⟨⟨h1, h2⟩, h3, h4⟩, ⟨⟨h5, h6⟩, h7⟩, h8⟩, -⟩, -⟩ := nm
  exact ⟨⟨h1, h2⟩, ⟨h3, h4⟩, ⟨h5, h6, h7, h8⟩, h9, h10, h11, h12⟩
theorem rd_mg {m : Mg} (hw : m.wf) (h : mgOk m = true) : rdM (mgB m) = m := by
  obtain ⟨⟨k1, k2⟩, ⟨e1, e2⟩, ⟨x1, x2, t1, t2⟩, hi, hh, hio, hho⟩ := nm_of h
  have N : ∀ (W : Nat) (hw : wideB (W : Int) = true) (hW : W ≤ 8) (x : Int) (h0 : 0 ≤ x) (h1 : x < 256 ^ W) (r : List UInt8), rn (W : Int) (nB W x ++ r, false) = x ∧ rs (W : Int) (nB W x ++ r, false) = (r, false) := fun W hw hW x h0 h1 r => rn_nB W hw hW h0 h1 r
  have hI : rdL rdIt m.its.length (m.its.flatMap itB ++ (nB 1 (m.hvs.length : Int) ++ m.hvs.flatMap hvB), false) = (m.its, (nB 1 (m.hvs.length : Int) ++ m.hvs.flatMap hvB, false)) := by
    rw [rd_all m.its _ (fun x hx r => rd_it (hw.its x hx) (hio x hx) r) m.its.length (Nat.le_refl _), List.take_of_length_le (Nat.le_refl _), List.drop_of_length_le (Nat.le_refl _)]
    rfl
  have hH : rdL rdHv m.hvs.length (m.hvs.flatMap hvB, false) = (m.hvs, ([], false)) := by
    have := rd_all m.hvs [] (fun x hx r => rd_hv (hw.hvs x hx) r) m.hvs.length (Nat.le_refl _)
    rw [List.append_nil] at this
    rw [this, List.take_of_length_le (Nat.le_refl _), List.drop_of_length_le (Nat.le_refl _)]
    rfl
  have uI : upN (m.its.length : Int) 4 = m.its.length := by unfold upN; rw [Int.toNat_natCast]; omega
  have uH : upN (m.hvs.length : Int) 8 = m.hvs.length := by unfold upN; rw [Int.toNat_natCast]; omega
  have g1 := fun r => N 1 (by decide) (by decide) m.k (by omega) (by omega) r
  have g2 := fun r => N 4 (by decide) (by decide) m.e (by omega) (by omega) r
  have g3 := fun r => N 8 (by decide) (by decide) m.s hw.s.1 hw.s.2 r
  have g4 := fun r => N 4 (by decide) (by decide) m.te hw.te.1 hw.te.2 r
  have g5 := fun r => N 4 (by decide) (by decide) m.ts hw.ts.1 hw.ts.2 r
  have g6 := fun r => N 4 (by decide) (by decide) m.be hw.be.1 hw.be.2 r
  have g7 := fun r => N 4 (by decide) (by decide) m.bs hw.bs.1 hw.bs.2 r
  have g8 := fun r => N 1 (by decide) (by decide) m.ix (by omega) (by omega) r
  have g9 := fun r => N 1 (by decide) (by decide) m.tt (by omega) (by omega) r
  have g10 := fun r => N 4 (by decide) (by decide) m.tk hw.tk.1 hw.tk.2 r
  have g11 := fun r => N 1 (by decide) (by decide) (m.its.length : Int) (by omega) (by omega) r
  have g12 := fun r => N 1 (by decide) (by decide) (m.hvs.length : Int) (by omega) (by omega) r
  have c1 : ((1 : Nat) : Int) = 1 := rfl
  have c4 : ((4 : Nat) : Int) = 4 := rfl
  have c8 : ((8 : Nat) : Int) = 8 := rfl
  simp only [c1, c4, c8] at g1 g2 g3 g4 g5 g6 g7 g8 g9 g10 g11 g12
  unfold rdM mgB
  simp only [(g1 _).1, (g1 _).2, (g2 _).1, (g2 _).2, (g3 _).1, (g3 _).2, (g4 _).1, (g4 _).2, (g5 _).1, (g5 _).2, (g6 _).1, (g6 _).2, (g7 _).1, (g7 _).2, (g8 _).1, (g8 _).2, (g9 _).1, (g9 _).2, (g10 _).1, (g10 _).2, (g11 _).1, (g11 _).2, uI, hI, (g12 _).1, (g12 _).2, uH, hH]
theorem itB_len {x : It} (h : x.2.2.length = 16) : (itB x).length = 18 := by unfold itB; simp [nB_len, h]
theorem hvB_len (x : Hv) : (hvB x).length = 12 := by unfold hvB; simp [nB_len]
theorem flat_len {α : Type} {f : α → List UInt8} {n : Nat} : ∀ (l : List α), (∀ x ∈ l, (f x).length = n) → (l.flatMap f).length = n * l.length
  | [], _ => rfl
  | x :: l, h => by rw [List.flatMap_cons, List.length_append, h x List.mem_cons_self, flat_len l (fun y hy => h y (List.mem_cons_of_mem _ hy)), List.length_cons, Nat.mul_succ]; omega
theorem mgB_len {m : Mg} (hw : m.wf) : (mgB m).length = 37 + 18 * m.its.length + 12 * m.hvs.length := by
  unfold mgB
  simp only [List.length_append, nB_len, flat_len m.its (fun x hx => itB_len (hw.its x hx).2), flat_len m.hvs (fun x _ => hvB_len x)]
  omega
end Go.Proofs.Ytmachdikonelbaa
