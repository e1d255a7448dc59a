/- Walks step by step: each operation by a law of its own; the world a variable, told by its parts (Sh). -/
import Derived.Test.YtenlkobjldhfgaaZRootRunsSh
import Derived.Deep.LoopGhost
import Derived.KernelRfl
set_option linter.unusedVariables false
set_option linter.unusedSimpArgs false
namespace Go.Proofs.Ytenlkobjldhfgaa
open Go.RowKit Go.Proofs.YtenlkobjldhfgaaW.PrintWords
def nth : List Value → Nat → Value
 | [], _ => undef
 | v :: _, 0 => v
 | _ :: l, n + 1 => nth l n
def evl (l : List Value) : Operand → Value
 | .tmp t => nth l t
 | .const v => v
 | .global g => .pointer (some ⟨g, 0, none⟩)
 | .func f => .func (.func f) #[] #[]
def fr (l : List Value) : Act := ⟨l.toArray, []⟩
theorem nth_getD : ∀ (l : List Value) (t : Nat), l.toArray.getD t undef = nth l t
 | [], t => by simp [nth]
 | v :: l, 0 => by simp [nth]
 | v :: l, t + 1 => by
  have := nth_getD l t
  simp only [Array.getD_eq_getD_getElem?, List.getElem?_toArray] at this ⊢
  simpa [nth] using this
theorem evl_eq (l : List Value) (x : Operand) : (fr l).eval x = evl l x := by
 cases x with
 | tmp t => exact nth_getD l t
 | _ => rfl
theorem evl_fun (l : List Value) : (fr l).eval = evl l := funext (evl_eq l)
theorem fr_put (l : List Value) (d : Nat) (v : Value) : (fr l).put (some d) v = fr (l.set d v) := by
 simp [fr, Act.put]
section
variable {P : Program} {ops : Array Oper} {Q : Exit → Act → World → Prop} {rest : List Oper} {l l' : List Value} {w : World} {d ty : Nat} {pos : String} {after : Array Edge} {x y : Operand} {op : Op} {v : Value} {g : Option (Nat × Bool)}
theorem c_region {id : Nat} {L : List Oper} (h : ∀ ops, ops = L.toArray → wpList P ops Q L (fr l) w) : (Code.region id L.toArray false).wp P Q (fr l) w := wp_region_lit (h _ rfl)
theorem c_loop {ι : Type} {c : Code} {a : Act} (I : ι → Act → World → Prop) (μ : ι → Nat) (i0 : ι) (h0 : I i0 a w)
  (round : ∀ i a w, I i a w → ∀ J : Act → World → Prop, (∀ i' a' w', μ i' < μ i → I i' a' w' → J a' w') → c.wp P (Exit.then J Q) a w) : (Code.loop c).wp P Q a w := by
 refine wp_loop_ghost (fun n a w => ∃ i, μ i = n ∧ I i a w) (μ i0) ⟨i0, rfl, h0⟩ ?_
 rintro n a w ⟨i, rfl, hI⟩
 exact round i a w hI _ (fun i' a' w' hm hi => ⟨μ i', hm, i', rfl, hi⟩)
theorem c_cond {c : Operand} {X Y : Code} {t : Bool} (hc : evl l c = .bool t) (ht : t = true → X.wp P Q (fr l) w) (hf : t = false → Y.wp P Q (fr l) w) : (Code.cond c X Y).wp P Q (fr l) w :=
 wp_cond_split ((evl_eq l c).trans hc) ht hf
theorem c_true {c : Operand} {X Y : Code} (hc : evl l c = .bool true) (h : X.wp P Q (fr l) w) : (Code.cond c X Y).wp P Q (fr l) w := wp_cond_true ((evl_eq l c).trans hc) h
theorem c_false {c : Operand} {X Y : Code} (hc : evl l c = .bool false) (h : Y.wp P Q (fr l) w) : (Code.cond c X Y).wp P Q (fr l) w := wp_cond_false ((evl_eq l c).trans hc) h
theorem c_enter {f : FuncId} {fn : Func} {c : Code} {args : List Value} {R : Ending → World → Prop} (hf : P.funcs[f]? = some fn) (hb : fn.body = some c) (n : Nat) (hn : fn.ntmps = n)
  (l : List Value) (hl : args ++ List.replicate (n - args.length) undef = l) (h : c.wp P (bodyPost P fn R) (fr l) w) : Calls P f args.toArray w R := by
 refine calls_of_wp hf hb ?_
 have : (fr l) = { tmps := args.toArray ++ Array.replicate (fn.ntmps - args.toArray.size) undef, defers := [] } := by
  subst hl; unfold fr; congr 1; rw [hn]; apply Array.ext' ; simp
 rw [← this]
 exact h
theorem c_ret {fn : Func} {R : Ending → World → Prop} (v : Value) (hr : (results fn l.toArray).run P w = .ok v w) (hR : R (.returned v) w) : bodyPost P fn R .ret (fr l) w := bodyPost_ret hr rfl hR
theorem c_end {fn : Func} {R : Ending → World → Prop} (v : Value) (hr : (results fn l.toArray).run P w = .ok v w) (hR : R (.returned v) w) : bodyPost P fn R .normal (fr l) w := bodyPost_end hr rfl hR
theorem r_tmp {fn : Func} {t : Nat} {v : Value} (h : fn.results = #[.tmp t]) (hv : nth l t = v) : (results fn l.toArray).run P w = .ok v w := by
 rw [results_tmp h, nth_getD, hv]
theorem r_none {fn : Func} (h : fn.results = #[]) : (results fn l.toArray).run P w = .ok (.tuple #[]) w := results_none h _ _ _
theorem r_tmp2 {fn : Func} {t u : Nat} {v v' : Value} (h : fn.results = #[.tmp t, .tmp u]) (hv : nth l t = v) (hv' : nth l u = v') : (results fn l.toArray).run P w = .ok (.tuple #[v, v']) w := by
 rw [results_tmp2 h, nth_getD, nth_getD, hv, hv']
theorem r_tmp3 {fn : Func} {t u s : Nat} {v v' v'' : Value} (h : fn.results = #[.tmp t, .tmp u, .tmp s]) (hv : nth l t = v) (hv' : nth l u = v') (hv'' : nth l s = v'') : (results fn l.toArray).run P w = .ok (.tuple #[v, v', v'']) w := by
 have e1 := nth_getD l t
 have e2 := nth_getD l u
 have e3 := nth_getD l s
 rw [hv] at e1
 rw [hv'] at e2
 rw [hv''] at e3
 simp only [Array.getD_eq_getD_getElem?, List.getElem?_toArray] at e1 e2 e3
 simp [results, h, e1, e2, e3]
def aggT (P : Program) (t : TypeId) : Bool := match P.underlying t with | some (.struct _) => true | some (.array _ _) => true | _ => false
def oneT (P : Program) (t : TypeId) : Bool := match P.underlying t with | some (.struct _) => false | some (.array _ _) => false | some _ => true | none => false
theorem p_run (v : Value) (hr : (execOp (evl l) ⟨some d, op, ty, pos, after, none⟩).run P w = .ok (.value v) w) (hl : l.set d v = l') (h : wpList P ops Q rest (fr l') w) : wpList P ops Q (⟨some d, op, ty, pos, after, none⟩ :: rest) (fr l) w := by
 refine wpList_plain rfl (fun K hK => ?_)
 unfold Oper.wp
 rw [evl_fun, hr, Oper.upon_value]
 refine hK _ _ ?_
 rw [fr_put, hl]
 exact h
theorem p_on {o : Oper} (hg : (⟨some d, op, ty, pos, after, g⟩ : Oper) = o) (hw : Region.wanted o (yielded ops (fr l).tmps) = true) (h : wpList P ops Q (⟨some d, op, ty, pos, after, none⟩ :: rest) (fr l) w) : wpList P ops Q (o :: rest) (fr l) w := by
 subst hg
 unfold wpList at h ⊢
 have h0 : Region.wanted ⟨some d, op, ty, pos, after, none⟩ (yielded ops (fr l).tmps) = true := by simp [Region.wanted]
 rw [if_pos h0] at h
 rw [if_pos hw]
 exact h
theorem p_off (hw : Region.wanted (⟨some d, op, ty, pos, after, g⟩ : Oper) (yielded ops (fr l).tmps) = false) (hl : l.set d undef = l') (h : wpList P ops Q rest (fr l') w) : wpList P ops Q (⟨some d, op, ty, pos, after, g⟩ :: rest) (fr l) w := by
 unfold wpList
 rw [if_neg (by rw [hw]; decide), fr_put, hl]
 exact h
section xs
variable {ρ : Operand → Value} {o : Oper}
theorem x_move (v : Value) (ho : o.op = .move x) (hx : ρ x = v) : (execOp ρ o).run P w = .ok (.value v) w := by simp [execOp, ho, hx]
theorem x_assign (v : Value) (ho : o.op = .assign x) (hx : ρ x = v) : (execOp ρ o).run P w = .ok (.value v) w := by simp [execOp, ho, hx]
theorem x_nil {a : Addr} (ho : o.op = .nilCheck x) (hx : ρ x = .pointer (some a)) : (execOp ρ o).run P w = .ok (.value (.pointer (some a))) w := by simp [execOp, ho, hx]
theorem x_pick {c : Operand} (b : Bool) (u v z : Value) (ho : o.op = .pick c x y) (hc : ρ c = .bool b) (hx : ρ x = u) (hy : ρ y = v) (hz : (if b = true then u else v) = z) : (execOp ρ o).run P w = .ok (.value z) w := by simp [execOp, ho, hc, hx, hy, asBool, ← hz]
theorem x_not {t : Nat} (b : Bool) (ho : o.op = .unOp .not t x) (hx : ρ x = .bool b) : (execOp ρ o).run P w = .ok (.value (.bool (!b))) w := by simp [execOp, ho, hx, go_sem]
def cmpB (bo : BinOp) (m n : Int) : Bool := match bo with | .lss => decide (m < n) | .leq => decide (m ≤ n) | .gtr => decide (m > n) | .geq => decide (m ≥ n) | .eql => m == n | .neq => m != n | _ => false
def cmpO (bo : BinOp) : Bool := match bo with | .lss | .leq | .gtr | .geq | .eql | .neq => true | _ => false
def ariZ (bo : BinOp) (m n : Int) : Int := match bo with | .add => m + n | .sub => m - n | .mul => m * n | _ => 0
def ariO (bo : BinOp) : Bool := match bo with | .add | .sub | .mul => true | _ => false
def eqB (bo : BinOp) (b : Bool) : Bool := match bo with | .eql => b | .neq => !b | _ => false
def eqO (bo : BinOp) : Bool := match bo with | .eql | .neq => true | _ => false
section ints
variable {k : IntKind} {m n : Int} {t t2 : Nat}
theorem x_cmp (bo : BinOp) (b : Bool) (ho : o.op = .binOp bo t x y t2) (hx : ρ x = .int k m) (hy : ρ y = .int k n) (hb : cmpB bo m n = b) (hok : cmpO bo = true) : (execOp ρ o).run P w = .ok (.value (.bool b)) w := by
 subst hb
 unfold cmpB
 cases bo <;> simp [cmpO] at hok <;> simp [execOp, ho, hx, hy, eqGuard, binOp, Op.intCmp]
theorem x_arith (bo : BinOp) (z : Int) (ho : o.op = .binOp bo t x y t2) (hx : ρ x = .int k m) (hy : ρ y = .int k n) (hb : k.wrap (ariZ bo m n) = z) (hok : ariO bo = true) : (execOp ρ o).run P w = .ok (.value (.int k z)) w := by
 subst hb
 unfold ariZ
 cases bo <;> simp [ariO] at hok <;> simp [execOp, ho, hx, hy, eqGuard, binOp, Op.intArith]
theorem x_conv (k2 : IntKind) (z : Int) {s : Nat} (ho : o.op = .convert s t x) (hs : (P.underlying s).isSome = true) (hd : P.underlying t = some (.int k2)) (hx : ρ x = .int k m) (hz : k2.wrap m = z) : (execOp ρ o).run P w = .ok (.value (.int k2 z)) w := by
 subst hz
 obtain ⟨ds, hds⟩ := Option.isSome_iff_exists.1 hs
 simp only [execOp, ho, hx]
 cases ds <;> simp [convert, underlying, hds, hd, Conv.intToInt, Sem.run_bind]
end ints
theorem x_eq {t t2 : Nat} (bo : BinOp) (u v : Value) (e z : Bool) (ho : o.op = .binOp bo t x y t2) (hx : ρ x = u) (hy : ρ y = v) (he : (Op.equal t u v).run P w = .ok e w) (hb : eqB bo e = z) (hok : eqO bo = true)
  (h1 : (eqGuard .eql t x y u v).run P w = .ok () w := by rfl) (h2 : (eqGuard .neq t x y u v).run P w = .ok () w := by rfl) (h3 : binOp .eql t u v = (do pure (.bool (← Op.equal t u v))) := by rfl) (h4 : binOp .neq t u v = (do pure (.bool (!(← Op.equal t u v)))) := by rfl) : (execOp ρ o).run P w = .ok (.value (.bool z)) w := by
 subst hb
 cases bo <;> simp [eqO] at hok
 ·simp only [execOp, ho, hx, hy, h3]
  simp [Sem.run_bind, h1, he, eqB]
 ·simp only [execOp, ho, hx, hy, h4]
  simp [Sem.run_bind, h2, he, eqB]
theorem x_extract {vs : List Value} (i : Nat) (v : Value) (ho : o.op = .extract x i) (hx : ρ x = .tuple vs.toArray) (hv : vs[i]? = some v) : (execOp ρ o).run P w = .ok (.value v) w := by simp [execOp, ho, hx, Instr.extract, hv]
theorem x_len {t n c e : Nat} {A : Option Addr} (ho : o.op = .call { callee := .builtin .len, args := #[x], argTypes := #[t] }) (hx : ρ x = .slice A n c) (ht : P.underlying t = some (.slice e)) : (execOp ρ o).run P w = .ok (.value (.int .i64 (n : Int))) w := by
 simp [execOp, ho, resolve, hx, invoke, builtin, Builtin.len_, underlying, ht, goInt, Sem.run_bind]
theorem x_max {ts : Array TypeId} {k : IntKind} {m n : Int} (z : Int) (ho : o.op = .call { callee := .builtin .max, args := #[x, y], argTypes := ts }) (hx : ρ x = .int k m) (hy : ρ y = .int k n) (hz : (if n > m then n else m) = z) : (execOp ρ o).run P w = .ok (.value (.int k z)) w := by
 simp [execOp, ho, resolve, hx, hy, invoke, builtin, Builtin.max_, Builtin.max2, ← hz]
theorem x_min {ts : Array TypeId} {k : IntKind} {m n : Int} (z : Int) (ho : o.op = .call { callee := .builtin .min, args := #[x, y], argTypes := ts }) (hx : ρ x = .int k m) (hy : ρ y = .int k n) (hz : (if n < m then n else m) = z) : (execOp ρ o).run P w = .ok (.value (.int k z)) w := by
 simp [execOp, ho, resolve, hx, hy, invoke, builtin, Builtin.min_, Builtin.min2, ← hz]
theorem x_field {s f : Nat} {g k j : Nat} (fs : Array Field) (fl : Field) (ho : o.op = .fieldAddr s x f) (hx : ρ x = .pointer (some ⟨g, k, none⟩)) (hu : P.underlying s = some (.struct fs)) (hf : fs[f]? = some fl) (hz : ((P.info? fl.type).map fun i => decide (i.size = 0)) = some false) (hj : k + fl.offset = j) : (execOp ρ o).run P w = .ok (.value (.pointer (some ⟨g, j, none⟩))) w := by
 subst hj
 cases hi : P.info? fl.type with
 | none => simp [hi] at hz
 | some i =>
  have hz' : ¬ i.size = 0 := by simpa [hi] using hz
  simp [execOp, ho, Instr.fieldAt, underlying, hu, hf, hx, Instr.sureAddr, fieldPlace, sizeOf, typeInfo, hi, hz', Sem.run_bind, Addr.add]
theorem x_index {t e n c : Nat} {A : Addr} {k : IntKind} {i : Int} {j sz : Nat} (ho : o.op = .indexAddr t x y) (hx : ρ x = .slice (some A) n c) (hy : ρ y = .int k i) (hu : P.underlying t = some (.slice e)) (hz : (P.info? e).map (·.size) = some sz) (hi : 0 ≤ i ∧ i < n) (hj : i.toNat * sz = j) : (execOp ρ o).run P w = .ok (.value (.pointer (some (A.add j)))) w := by
 subst hj
 cases hq : P.info? e with
 | none => simp [hq] at hz
 | some i' =>
  have hs : i'.size = sz := by simpa [hq] using hz
  simp [execOp, ho, Instr.indexAt, hx, hy, asIntOf, underlying, hu, hi, sizeOf, typeInfo, hq, hs, Sem.run_bind]
theorem x_indexArr {t e n : Nat} {g b : Nat} {k : IntKind} {i : Int} {j sz : Nat} (ho : o.op = .indexAddr t x y) (hx : ρ x = .pointer (some ⟨g, b, none⟩)) (hy : ρ y = .int k i) (hu : P.underlying t = some (.array n e)) (hz : (P.info? e).map (·.size) = some sz) (hi : 0 ≤ i ∧ i < n) (hj : b + i.toNat * sz = j) : (execOp ρ o).run P w = .ok (.value (.pointer (some ⟨g, j, none⟩))) w := by
 subst hj
 cases hq : P.info? e with
 | none => simp [hq] at hz
 | some i' =>
  have hs : i'.size = sz := by simpa [hq] using hz
  simp [execOp, ho, Instr.indexAt, hx, hy, asIntOf, Instr.sureAddr, underlying, hu, hi, sizeOf, typeInfo, hq, hs, Sem.run_bind, Addr.add]
theorem x_build {t : Nat} {parts : Array (Nat × Operand)} (cs : List Value) (ho : o.op = .build t parts) (hb : P.built t (parts.map fun (i, x) => (i, ρ x)).toList = some cs.toArray) : (execOp ρ o).run P w = .ok (.value (.agg cs.toArray)) w := by
 simp [execOp, ho, run_build w t _ _ hb]
theorem x_slice {t e n c sz lo hi : Nat} {A : Option Addr} {L H : Option Operand} (A' : Option Addr) (ho : o.op = .slice t x L H none) (hx : ρ x = .slice A n c) (hu : P.underlying t = some (.slice e)) (hz : (P.info? e).map (·.size) = some sz)
  (hL : (match L with | none => lo = 0 | some y => ∃ k i, ρ y = .int k i ∧ 0 ≤ i ∧ i.toNat = lo)) (hH : (match H with | none => hi = n | some y => ∃ k i, ρ y = .int k i ∧ 0 ≤ i ∧ i.toNat = hi)) (h1 : lo ≤ hi) (h2 : hi ≤ c) (hA : (if c = lo then A else A.map (·.add (lo * sz))) = A') : (execOp ρ o).run P w = .ok (.value (.slice A' (hi - lo) (c - lo))) w := by
 subst hA
 cases hq : P.info? e with
 | none => simp [hq] at hz
 | some i' =>
  have hs : i'.size = sz := by simpa [hq] using hz
  have key : ∀ (y : Operand) (k : IntKind) (i : Int) (m b : Nat) (code : BoundsCode), ρ y = .int k i → 0 ≤ i → i.toNat = m → m ≤ b → (Instr.sliceBound (ρ y) b code).run P w = .ok m w := by
   intro y k i m b code e1 e2 e3 e4
   have : i ≤ (b : Int) := by omega
   simp [Instr.sliceBound, e1, asIntOf, Sem.run_bind, e2, this, e3]
  cases L <;> cases H
  ·simp only at hL hH
   subst hL hH
   simp [execOp, ho, hx, Instr.sliceAt, Instr.slice, underlying, hu, Sem.run_bind, Instr.sliceBounds, sizeOf, typeInfo, hq, hs]
  ·obtain ⟨k, i, e1, e2, e3⟩ := hH
   simp only at hL
   subst hL
   simp [execOp, ho, hx, Instr.sliceAt, Instr.slice, underlying, hu, Sem.run_bind, Instr.sliceBounds, sizeOf, typeInfo, hq, hs, key _ k i hi c _ e1 e2 e3 h2]
  ·obtain ⟨k, i, e1, e2, e3⟩ := hL
   simp only at hH
   subst hH
   simp [execOp, ho, hx, Instr.sliceAt, Instr.slice, underlying, hu, Sem.run_bind, Instr.sliceBounds, sizeOf, typeInfo, hq, hs, key _ k i lo _ _ e1 e2 e3 h1]
  ·obtain ⟨k, i, e1, e2, e3⟩ := hL
   obtain ⟨k', i', e1', e2', e3'⟩ := hH
   simp [execOp, ho, hx, Instr.sliceAt, Instr.slice, underlying, hu, Sem.run_bind, Instr.sliceBounds, sizeOf, typeInfo, hq, hs, key _ k i lo _ _ e1 e2 e3 h1, key _ k' i' hi c _ e1' e2' e3' h2]
theorem x_sliceArr {t e n sz lo hi : Nat} {A : Addr} {L H : Option Operand} (A' : Addr) (ho : o.op = .slice t x L H none) (hx : ρ x = .pointer (some A)) (hu : P.underlying t = some (.array n e)) (hz : (P.info? e).map (·.size) = some sz)
  (hL : (match L with | none => lo = 0 | some y => ∃ k i, ρ y = .int k i ∧ 0 ≤ i ∧ i.toNat = lo)) (hH : (match H with | none => hi = n | some y => ∃ k i, ρ y = .int k i ∧ 0 ≤ i ∧ i.toNat = hi)) (h1 : lo ≤ hi) (h2 : hi ≤ n) (hA : (if n = lo then A else A.add (lo * sz)) = A') : (execOp ρ o).run P w = .ok (.value (.slice (some A') (hi - lo) (n - lo))) w := by
 subst hA
 cases hq : P.info? e with
 | none => simp [hq] at hz
 | some i' =>
  have hs : i'.size = sz := by simpa [hq] using hz
  have key : ∀ (y : Operand) (k : IntKind) (i : Int) (m b : Nat) (code : BoundsCode), ρ y = .int k i → 0 ≤ i → i.toNat = m → m ≤ b → (Instr.sliceBound (ρ y) b code).run P w = .ok m w := by
   intro y k i m b code e1 e2 e3 e4
   have : i ≤ (b : Int) := by omega
   simp [Instr.sliceBound, e1, asIntOf, Sem.run_bind, e2, this, e3]
  cases L <;> cases H
  ·simp only at hL hH
   subst hL hH
   simp [execOp, ho, hx, Instr.sliceAt, Instr.sureAddr, underlying, hu, Sem.run_bind, Instr.sliceBounds, sizeOf, typeInfo, hq, hs]
  ·obtain ⟨k, i, e1, e2, e3⟩ := hH
   simp only at hL
   subst hL
   simp [execOp, ho, hx, Instr.sliceAt, Instr.sureAddr, underlying, hu, Sem.run_bind, Instr.sliceBounds, sizeOf, typeInfo, hq, hs, key _ k i hi n _ e1 e2 e3 h2]
  ·obtain ⟨k, i, e1, e2, e3⟩ := hL
   simp only at hH
   subst hH
   simp [execOp, ho, hx, Instr.sliceAt, Instr.sureAddr, underlying, hu, Sem.run_bind, Instr.sliceBounds, sizeOf, typeInfo, hq, hs, key _ k i lo _ _ e1 e2 e3 h1]
  ·obtain ⟨k, i, e1, e2, e3⟩ := hL
   obtain ⟨k', i', e1', e2', e3'⟩ := hH
   simp [execOp, ho, hx, Instr.sliceAt, Instr.sureAddr, underlying, hu, Sem.run_bind, Instr.sliceBounds, sizeOf, typeInfo, hq, hs, key _ k i lo _ _ e1 e2 e3 h1, key _ k' i' hi n _ e1' e2' e3' h2]
end xs
end
end Go.Proofs.Ytenlkobjldhfgaa
