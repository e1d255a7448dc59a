/- record's reader: page, label. -/
import Derived.Test.YtkiiangookibnaaShR
namespace Go.Proofs.Ytkiiangookibnaa
open Go.RowKit Go.Proofs.YtkiiangookibnaaW.PrintWords
set_option linter.unusedVariables false
def u32w (x : Int) : Int := x % 4294967296
section
variable {w0 w W : World} {F : Nat → Prop} {L : List Res} {base R : Nat} {s : Rs}
set_option maxHeartbeats 4000000 in
theorem page_any (HS : St w0 F W (rdr base R s :: L)) :
    Calls Try.prog 28 #[.agg #[.pointer (some ⟨R, 0, none⟩)]] W fun e w' => e = .returned (.int .i64 (wrap64 (wrap64 (rn 1 s) - 1))) ∧ St w0 F w' (rdr base R (rs 1 s) :: L) := by
  have HS1 := (HS.alloc [.pointer (some ⟨R, 0, none⟩)] 65).front 1 rfl
  have hh := HS.hs.lt R
  have HSx := Lib.hid HS
  clear HS hh
  go_enter Try.func28, Try.ntmps28
  go_wp2_with (go_at_call 27; refine (HS1.num 1).mono ?_; rintro e w1 ⟨rfl, HS2⟩)
  go_ret
  exact ⟨rfl, (HS2.front 1 rfl).drop⟩
set_option maxHeartbeats 4000000 in
theorem label_any (HS : St w0 F W (rdr base R s :: L)) :
    Calls Try.prog 29 #[.agg #[.pointer (some ⟨R, 0, none⟩)]] W fun e w' => e = .returned (.agg #[.int .u32 (u32w (rn 4 s)), .int .u32 (u32w (rn 4 (rs 4 s)))]) ∧ St w0 F w' (rdr base R (rs 4 (rs 4 s)) :: L) := by
  have HS1 := (HS.alloc2 [.pointer (some ⟨R, 0, none⟩)] [.int .u32 0, .int .u32 0] 65 28).front 2 rfl
  clear HS
  go_enter Try.func29, Try.ntmps29
  go_wp2_with fail
  refine (HS1.num 4).mono ?_
  rintro e w1 ⟨rfl, HS2⟩
  clear HS1
  have c0 := bkCell (HS2.get (.tail _ (.tail _ (.head _)))) 0 _ rfl
  go_wp2_with fail
  refine (HS2.num 4).mono ?_
  rintro e w2 ⟨rfl, HS3⟩
  clear HS2 c0
  have c0 := bkCell (HS3.get (.tail _ (.head _))) 0 _ rfl
  have c1 := bkCell (HS3.get (.tail _ (.head _))) 1 _ rfl
  have z0 := blk_free (HS3.get (.tail _ (.head _))) 0
  have z1 := blk_free (HS3.get (.tail _ (.head _))) 1
  go_wp2_with fail
  have HS4 := ((HS3.front 1 rfl).set 0 (.int .u32 (u32w (rn 4 s)))).set 1 (.int .u32 (u32w (rn 4 (rs 4 s))))
  have e0 := bkCell (HS4.get (.head _)) 0 _ rfl
  have e1 := bkCell (HS4.get (.head _)) 1 _ rfl
  refine bodyPost_ret (v := .agg #[.int .u32 (u32w (rn 4 s)), .int .u32 (u32w (rn 4 (rs 4 s)))]) ?_ rfl ⟨rfl, ?_⟩
  · unfold u32w at e0 e1 ⊢
    simp [results, Try.f29, go_sem, e0, e1]
  · exact (HS4.drop.front 1 rfl).drop
end
end Go.Proofs.Ytkiiangookibnaa
