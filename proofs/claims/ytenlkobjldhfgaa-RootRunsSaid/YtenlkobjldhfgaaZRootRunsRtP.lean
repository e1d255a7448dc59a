/- Several texts in one: RtA, RtB, RtC. -/
import Derived.Test.YtenlkobjldhfgaaZRootRunsLeN
import Derived.Test.YtenlkobjldhfgaaZRootRunsPut
import Derived.Test.YtenlkobjldhfgaaZRootRunsCrcS
import Derived.Test.YtenlkobjldhfgaaZRootRunsWkM
import Derived.Test.YtenlkobjldhfgaaZRootRunsFlat
set_option linter.unusedVariables false
set_option linter.unusedSimpArgs false
namespace Go.Proofs.Ytenlkobjldhfgaa
open Go.RowKit Go.Proofs.YtenlkobjldhfgaaW.PrintWords Go.Proofs.YtenlkobjldhfgaaW.PrintLast Crc
theorem leN_leB : ∀ (k n : Nat), leN (leB k n) = n % 256 ^ k
 | 0, n => by simp [leN, leB, Nat.mod_one]
 | k + 1, n => by
  unfold leB leN
  rw [leN_leB k, UInt8.toNat_ofNat']
  have e : n % 256 ^ (k + 1) = n % 256 + 256 * (n / 256 % 256 ^ k) := by
   rw [show 256 ^ (k + 1) = 256 * 256 ^ k by rw [Nat.pow_succ, Nat.mul_comm], Nat.mod_mul]
  rw [e]
  omega
def gnB (g : UInt64) : List UInt8 := leB 8 g.toNat
theorem gnB_length (g : UInt64) : (gnB g).length = 8 := leB_length 8 _
def padL (n : Nat) (xs : List UInt8) : List UInt8 := xs ++ List.replicate (n - xs.length) 0
theorem padL_len {n : Nat} {xs : List UInt8} (h : xs.length ≤ n) : (padL n xs).length = n := by unfold padL; rw [List.length_append, List.length_replicate]; omega
def secB (g : UInt64) (st : List UInt8) (s : Nat) : List UInt8 := gnB g ++ padL 24 ((st.drop (24 * s)).take 24)
theorem secB_len (g : UInt64) (st : List UInt8) (s : Nat) : (secB g st s).length = 32 := by
 unfold secB
 rw [List.length_append, gnB_length, padL_len (by rw [List.length_take]; omega)]
def pgB (g : UInt64) (st : List UInt8) : List UInt8 := (List.range 8).flatMap (secB g st)
section
variable {α : Type}
theorem chunk_len {f : Nat → List α} {m : Nat} (hf : ∀ i, (f i).length = m) : ∀ n, ((List.range n).flatMap f).length = m * n
 | 0 => by simp
 | n + 1 => by rw [List.range_succ, List.flatMap_append, List.length_append, chunk_len hf n]; simp [hf]; rw [Nat.mul_succ]
theorem chunk_at {f : Nat → List α} {m : Nat} (hf : ∀ i, (f i).length = m) : ∀ n s, s < n → (((List.range n).flatMap f).drop (m * s)).take m = f s
 | 0, s, h => by omega
 | n + 1, s, h => by
  have hl := chunk_len hf n
  rw [List.range_succ, List.flatMap_append]
  have e1 : List.flatMap f [n] = f n := by simp
  rw [e1]
  rcases Nat.lt_or_ge s n with h2 | h2
  ·have hm : m * s + m ≤ m * n := by
    have := Nat.mul_le_mul_left m (show s + 1 ≤ n by omega)
    rw [Nat.mul_succ] at this
    exact this
   rw [List.drop_append_of_le_length (by omega), List.take_append_of_le_length (by rw [List.length_drop]; omega)]
   exact chunk_at hf n s h2
  ·obtain rfl : s = n := by omega
   rw [← hl, List.drop_left, List.take_of_length_le (by rw [hf]; exact Nat.le_refl _)]
end
theorem pgB_len (g : UInt64) (st : List UInt8) : (pgB g st).length = 256 := chunk_len (secB_len g st) 8
def hdB (q : List UInt8) (s : Nat) : UInt64 := UInt64.ofNat (leN ((q.drop (32 * s)).take 8))
def bdS (q : List UInt8) (s : Nat) : List UInt8 := (q.drop (32 * s + 8)).take 24
def stB (q : List UInt8) : List UInt8 := (List.range 8).flatMap (bdS q)
theorem leN_gn (g : UInt64) : UInt64.ofNat (leN (gnB g)) = g := by
 unfold gnB
 rw [leN_leB, Nat.mod_eq_of_lt (by have := g.toNat_lt; omega)]
 exact UInt64.ofNat_toNat
theorem sec_of {q : List UInt8} {s : Nat} : (q.drop (32 * s)).take 8 = ((q.drop (32 * s)).take 32).take 8 ∧ bdS q s = ((q.drop (32 * s)).take 32).drop 8 := by
 refine ⟨by rw [List.take_take]; rfl, ?_⟩
 unfold bdS
 rw [List.drop_take, List.drop_drop]
theorem pg_sec (g : UInt64) (st : List UInt8) {s : Nat} (h : s < 8) : ((pgB g st).drop (32 * s)).take 32 = secB g st s := chunk_at (secB_len g st) 8 s h
theorem hd_pg (g : UInt64) (st : List UInt8) {s : Nat} (h : s < 8) : hdB (pgB g st) s = g := by
 unfold hdB
 rw [sec_of.1, pg_sec g st h]
 unfold secB
 rw [List.take_left' (gnB_length g), leN_gn]
theorem bd_pg (g : UInt64) (st : List UInt8) {s : Nat} (h : s < 8) : bdS (pgB g st) s = padL 24 ((st.drop (24 * s)).take 24) := by
 rw [sec_of.2, pg_sec g st h]
 unfold secB
 rw [List.drop_left' (gnB_length g)]
theorem pads (st : List UInt8) (m : Nat) : ∀ n, (List.range n).flatMap (fun s => padL m ((st.drop (m * s)).take m)) = padL (m * n) (st.take (m * n))
 | 0 => by simp [padL]
 | n + 1 => by
  rw [List.range_succ, List.flatMap_append, pads st m n, Nat.mul_succ, List.take_add]
  have e1 : List.flatMap (fun s => padL m ((st.drop (m * s)).take m)) [n] = padL m ((st.drop (m * n)).take m) := by simp
  rw [e1]
  rcases Nat.lt_or_ge st.length (m * n) with h | h
  ·have hd : st.drop (m * n) = [] := List.drop_of_length_le (by omega)
   rw [hd, List.take_nil, List.append_nil]
   unfold padL
   rw [List.nil_append, List.append_assoc, List.replicate_append_replicate]
   have hl : (st.take (m * n)).length = st.length := by rw [List.length_take]; omega
   rw [hl, List.length_nil]
   congr 2
   omega
  ·have hl : (st.take (m * n)).length = m * n := by rw [List.length_take]; omega
   unfold padL
   rw [hl, Nat.sub_self, List.replicate_zero, List.append_nil, List.length_append, hl, List.append_assoc]
   congr 3
   omega
theorem st_pg (g : UInt64) {st : List UInt8} (h : st.length ≤ 192) : stB (pgB g st) = padL 192 st := by
 unfold stB
 have e : (List.range 8).flatMap (bdS (pgB g st)) = (List.range 8).flatMap (fun s => padL 24 ((st.drop (24 * s)).take 24)) := by
  simp only [List.flatMap_def]
  congr 1
  apply List.map_congr_left
  intro s hs
  exact bd_pg g st (List.mem_range.1 hs)
 rw [e, pads st 24 8, List.take_of_length_le h]
def rtS (c : List UInt8) : List UInt8 := sealB (leB 2 c.length ++ c)
theorem rtS_len (c : List UInt8) : (rtS c).length = c.length + 6 := by
 unfold rtS
 rw [sealB_length, List.length_append, leB_length]
 omega
def szR (q : List UInt8) : Nat := leN ((stB q).take 2)
def ctR (q : List UInt8) : List UInt8 := ((stB q).drop 2).take (szR q)
def okR (q : List UInt8) (slot : Nat) : Bool := decide (hdB q 0 ≠ 0) && decide ((hdB q 0).toNat % 2 = slot) && decide (szR q ≤ 186) && decide (q = pgB (hdB q 0) (rtS (ctR q)))
theorem st_parts (g : UInt64) {c : List UInt8} (h : c.length ≤ 186) : stB (pgB g (rtS c)) = leB 2 c.length ++ (c ++ (tailB (sumB init (leB 2 c.length ++ c)) ++ List.replicate (192 - (rtS c).length) 0)) := by
 rw [st_pg g (by rw [rtS_len]; omega)]
 unfold padL
 generalize List.replicate (192 - (rtS c).length) (0 : UInt8) = z
 unfold rtS sealB
 simp only [List.append_assoc]
theorem sz_pg (g : UInt64) {c : List UInt8} (h : c.length ≤ 186) : szR (pgB g (rtS c)) = c.length := by
 unfold szR
 rw [st_parts g h, List.take_left' (leB_length 2 _), leN_leB, Nat.mod_eq_of_lt (by omega)]
theorem ct_pg (g : UInt64) {c : List UInt8} (h : c.length ≤ 186) : ctR (pgB g (rtS c)) = c := by
 unfold ctR
 rw [sz_pg g h, st_parts g h, List.drop_left' (leB_length 2 _), List.take_left' rfl]
theorem ok_pg {g : UInt64} {c : List UInt8} {slot : Nat} (hc : c.length ≤ 186) (h0 : g ≠ 0) (hs : g.toNat % 2 = slot) : okR (pgB g (rtS c)) slot = true := by
 unfold okR
 rw [hd_pg g _ (by decide), sz_pg g hc, ct_pg g hc]
 simp [h0, hs, hc]
theorem ok_of {q : List UInt8} {slot : Nat} (h : okR q slot = true) : hdB q 0 ≠ 0 ∧ (hdB q 0).toNat % 2 = slot ∧ szR q ≤ 186 ∧ q = pgB (hdB q 0) (rtS (ctR q)) := by
 unfold okR at h
 simp only [Bool.and_eq_true, decide_eq_true_eq] at h
 exact ⟨h.1.1.1, h.1.1.2, h.1.2, h.2⟩
theorem stB_len {q : List UInt8} (h : q.length = 256) : (stB q).length = 192 := by
 have hb : ∀ s, s ∈ List.range 8 → (bdS q s).length = 24 := by
  intro s hs
  have := List.mem_range.1 hs
  unfold bdS
  rw [List.length_take, List.length_drop]
  omega
 unfold stB
 rw [List.length_flatMap]
 have : (List.range 8).map (fun s => (bdS q s).length) = (List.range 8).map (fun _ => 24) := List.map_congr_left hb
 rw [this]
 rfl
theorem ct_len {q : List UInt8} (h : q.length = 256) (hs : szR q ≤ 186) : (ctR q).length = szR q := by
 unfold ctR
 rw [List.length_take, List.length_drop, stB_len h]
 omega
def hdsB (q : List UInt8) : List UInt64 := (List.range 8).map (hdB q)
def topL (t : UInt64) (l : List UInt64) : UInt64 := l.foldl (fun t g => if g > t then g else t) t
theorem topL_ge : ∀ (l : List UInt64) (t : UInt64), t ≤ topL t l ∧ ∀ g ∈ l, g ≤ topL t l
 | [], t => ⟨UInt64.le_refl t, fun g h => by cases h⟩
 | x :: l, t => by
  obtain ⟨h1, h2⟩ := topL_ge l (if x > t then x else t)
  have hx : t ≤ (if x > t then x else t) ∧ x ≤ (if x > t then x else t) := by
   rw [UInt64.le_iff_toNat_le, UInt64.le_iff_toNat_le]
   split
   ·rename_i h
    have := UInt64.lt_iff_toNat_lt.1 h
    omega
   ·rename_i h
    have : ¬ t.toNat < x.toNat := fun h' => h (UInt64.lt_iff_toNat_lt.2 h')
    omega
  refine ⟨UInt64.le_trans hx.1 h1, fun g hg => ?_⟩
  rcases List.mem_cons.1 hg with rfl | hg
  ·exact UInt64.le_trans hx.2 h1
  ·exact h2 g hg
theorem topL_le {m : UInt64} : ∀ (l : List UInt64) (t : UInt64), t ≤ m → (∀ g ∈ l, g ≤ m) → topL t l ≤ m
 | [], t, h, _ => h
 | x :: l, t, h, hl => by
  refine topL_le l _ ?_ (fun g hg => hl g (List.mem_cons_of_mem _ hg))
  show (if x > t then x else t) ≤ m
  split
  ·exact hl x List.mem_cons_self
  ·exact h
theorem hds_pg (g : UInt64) (st : List UInt8) : ∀ x ∈ hdsB (pgB g st), x = g := by
 intro x hx
 obtain ⟨s, hs, rfl⟩ := List.mem_map.1 hx
 exact hd_pg g st (List.mem_range.1 hs)
end Go.Proofs.Ytenlkobjldhfgaa
set_option linter.unusedVariables false
set_option linter.unusedSimpArgs false
namespace Go.Proofs.Ytenlkobjldhfgaa
open Go.RowKit Go.Proofs.YtenlkobjldhfgaaW.PrintWords Go.Proofs.YtenlkobjldhfgaaW.PrintLast Crc
def spl (X : List UInt8) (k : Nat) (us : List UInt8) : List UInt8 := X.take k ++ us ++ X.drop (k + us.length)
theorem spl_len {X us : List UInt8} {k : Nat} (h : k + us.length ≤ X.length) : (spl X k us).length = X.length := by unfold spl; simp only [List.length_append, List.length_take, List.length_drop]; omega
theorem lay_spl (X : List UInt8) (k : Nat) (us : List UInt8) : lay (nums .u8 (X.map bv)) k (nums .u8 (us.map bv)) = nums .u8 ((spl X k us).map bv) := by
 unfold lay spl nums
 simp only [List.map_append, List.map_take, List.map_drop, List.length_map]
theorem spl_nil {X : List UInt8} {k : Nat} : spl X k [] = X := by unfold spl; simp
def pgJ (g : UInt64) (st : List UInt8) (j : Nat) : List UInt8 := (List.range j).flatMap (secB g st) ++ List.replicate (256 - 32 * j) 0
theorem pgJ_zero (g : UInt64) (st : List UInt8) : (pgJ g st 0).map bv = zpg := by unfold pgJ zpg; rw [List.range_zero, List.flatMap_nil, List.nil_append, Nat.mul_zero, Nat.sub_zero, List.map_replicate]; rfl
theorem pgJ_end (g : UInt64) (st : List UInt8) : pgJ g st 8 = pgB g st := by unfold pgJ pgB; simp
theorem pgJ_len (g : UInt64) (st : List UInt8) {j : Nat} (h : j ≤ 8) : (pgJ g st j).length = 256 := by
 unfold pgJ
 rw [List.length_append, chunk_len (secB_len g st), List.length_replicate]
 omega
def pgH (g : UInt64) (st : List UInt8) (j : Nat) : List UInt8 := spl (pgJ g st j) (32 * j) (gnB g)
theorem pgH_len (g : UInt64) (st : List UInt8) {j : Nat} (h : j < 8) : (pgH g st j).length = 256 := by
 unfold pgH
 rw [spl_len (by rw [pgJ_len g st (by omega), gnB_length]; omega), pgJ_len g st (by omega)]
theorem pgJ_step (g : UInt64) (st : List UInt8) {j : Nat} (h : j < 8) : spl (pgH g st j) (32 * j + 8) ((st.drop (24 * j)).take 24) = pgJ g st (j + 1) := by
 have hA : ((List.range j).flatMap (secB g st)).length = 32 * j := chunk_len (secB_len g st) j
 have hx : ((st.drop (24 * j)).take 24).length ≤ 24 := by rw [List.length_take]; omega
 have hG := gnB_length g
 have e1 : pgJ g st (j + 1) = (List.range j).flatMap (secB g st) ++ (secB g st j ++ List.replicate (256 - 32 * (j + 1)) 0) := by
  unfold pgJ
  rw [List.range_succ, List.flatMap_append, List.append_assoc]
  simp
 rw [e1]
 unfold pgH pgJ
 generalize (List.range j).flatMap (secB g st) = A at *
 unfold secB padL
 generalize (st.drop (24 * j)).take 24 = X at *
 generalize gnB g = G at *
 have e2 : spl (A ++ List.replicate (256 - 32 * j) 0) (32 * j) G = A ++ G ++ List.replicate (256 - 32 * j - 8) 0 := by
  unfold spl
  rw [List.take_left' hA, ← List.drop_drop, List.drop_left' hA, List.drop_replicate, hG]
 rw [e2]
 have hAG : (A ++ G).length = 32 * j + 8 := by rw [List.length_append, hA, hG]
 unfold spl
 rw [List.take_left' hAG, ← List.drop_drop, List.drop_left' hAG, List.drop_replicate]
 simp only [List.append_assoc]
 congr 3
 rw [List.replicate_append_replicate]
 congr 1
 omega
theorem pgJ_skip (g : UInt64) (st : List UInt8) {j : Nat} (h : j < 8) (hl : st.length ≤ 24 * j) : pgH g st j = pgJ g st (j + 1) := by
 rw [← pgJ_step g st h, List.drop_of_length_le hl, List.take_nil, spl_nil]
end Go.Proofs.Ytenlkobjldhfgaa
set_option linter.unusedVariables false
set_option linter.unusedSimpArgs false
namespace Go.Proofs.Ytenlkobjldhfgaa
open Go.RowKit Go.Proofs.YtenlkobjldhfgaaW.PrintWords Go.Proofs.YtenlkobjldhfgaaW.PrintLast Crc
def scO {α : Type} (q : List α) (s : Nat) : List α := (q.drop (32 * s)).take 32
theorem sc_splice {α : Type} {q y : List α} {k : Nat} (hq : q.length = 256) (hy : y.length = 32) (hk : k < 8) : (q.take (k * 32) ++ y ++ q.drop (k * 32 + 32)).length = 256 ∧ ∀ s, s < 8 → scO (q.take (k * 32) ++ y ++ q.drop (k * 32 + 32)) s = if s = k then y else scO q s := by
 have h1 : (q.take (k * 32)).length = k * 32 := by rw [List.length_take]; omega
 refine ⟨by simp only [List.length_append, List.length_take, List.length_drop]; omega, fun s hs => ?_⟩
 unfold scO
 rcases Nat.lt_trichotomy s k with h | h | h
 ·rw [if_neg (by omega), List.append_assoc, List.drop_append_of_le_length (by omega), List.take_append_of_le_length (by rw [List.length_drop]; omega), List.drop_take, List.take_take]
  congr 1
  omega
 ·subst h
  rw [if_pos rfl, List.append_assoc, Nat.mul_comm 32, List.drop_left' h1, List.take_left' hy]
 ·rw [if_neg (by omega)]
  have h2 : (q.take (k * 32) ++ y).length = k * 32 + 32 := by rw [List.length_append]; omega
  have e : 32 * s = (k * 32 + 32) + (32 * s - (k * 32 + 32)) := by omega
  rw [e, ← List.drop_drop, List.drop_left' h2, List.drop_drop]
theorem lkv {t g n : UInt64} (h : g ≤ t) (h2 : t < n) : g < n := by
 rw [UInt64.lt_iff_toNat_lt] at *
 rw [UInt64.le_iff_toNat_le] at h
 omega
def gnU (q : List UInt8) (slot : Nat) : UInt64 := if okR q slot = true then hdB q 0 else 0
def cnU (q : List UInt8) (slot : Nat) : List UInt8 := if okR q slot = true then ctR q else []
def lkG (q0 q1 : List UInt8) : UInt64 := if gnU q1 1 > gnU q0 0 then gnU q1 1 else gnU q0 0
def lkB (q0 q1 : List UInt8) : List UInt8 := if gnU q1 1 > gnU q0 0 then cnU q1 1 else cnU q0 0
def lkT (q0 q1 : List UInt8) : UInt64 := topL (topL 0 (hdsB q0)) (hdsB q1)
def nxN (g t : Nat) : Nat := if 0 < g ∧ (t + 1) % 2 = g % 2 then t + 2 else t + 1
theorem nx_gt (g t : Nat) : t < nxN g t ∧ nxN g t ≤ t + 2 := by unfold nxN; split <;> omega
theorem lkT_ge (q0 q1 : List UInt8) : (∀ g ∈ hdsB q0, g ≤ lkT q0 q1) ∧ (∀ g ∈ hdsB q1, g ≤ lkT q0 q1) := by
 unfold lkT
 refine ⟨fun g hg => ?_, fun g hg => (topL_ge _ _).2 g hg⟩
 exact UInt64.le_trans ((topL_ge (hdsB q0) 0).2 g hg) (topL_ge (hdsB q1) _).1
theorem lkT_le {q0 q1 : List UInt8} {m : UInt64} (h0 : ∀ g ∈ hdsB q0, g ≤ m) (h1 : ∀ g ∈ hdsB q1, g ≤ m) : lkT q0 q1 ≤ m := topL_le _ _ (topL_le _ _ (by rw [UInt64.le_iff_toNat_le]; exact Nat.zero_le _) h0) h1
theorem gn_pg {g : UInt64} {c : List UInt8} {slot : Nat} (hc : c.length ≤ 186) (h0 : g ≠ 0) (hs : g.toNat % 2 = slot) : gnU (pgB g (rtS c)) slot = g ∧ cnU (pgB g (rtS c)) slot = c := by
 unfold gnU cnU
 rw [if_pos (ok_pg hc h0 hs), if_pos (ok_pg hc h0 hs)]
 exact ⟨hd_pg g _ (by decide), ct_pg g hc⟩
end Go.Proofs.Ytenlkobjldhfgaa
