/- Package disk: Sync, Crash, Pending, New. -/
import Derived.Test.YtiokdpnhaemciaaDisk4
set_option linter.unusedVariables false
set_option linter.unusedSimpArgs false
namespace Go.Proofs.Ytiokdpnhaemciaa
open Go.RowKit Go.Proofs.YtiokdpnhaemciaaW.PrintWords Go.Proofs.YtiokdpnhaemciaaW.PrintLast
section
variable {w0 W : World} {F : Nat → Prop} {L : List Res} {D gs gm : Nat} {v : Value} {S : Dk}
def maskOf (keep : List Int) (k : Nat) : Int := keep.getD k 0
theorem keep_get {w : World} {A : Option Addr} {n : Nat} {ps : List Int} (h : (Kd.int .u8).C w A n ps) (j : Nat) (hj : j < ps.length) : ∃ ad, A = some ad ∧ w.cell? (ad.add (j * 1)) = some (.int .u8 (maskOf ps j)) := by
  obtain ⟨ad, e, hc⟩ := h.2.2 (by have := h.1; omega)
  obtain ⟨c, hs, hr, hcell⟩ := hc j _ (List.getElem?_eq_getElem hj)
  refine ⟨ad, e, ?_⟩
  have := hcell 0 (.int .u8 ps[j]) (by rw [show c = [.int .u8 ps[j]] from hr]; rfl)
  unfold maskOf
  rw [List.getD_eq_getElem?_getD, List.getElem?_eq_getElem hj]
  exact this

def Dk.sync (S : Dk) : Dk := if S.acts = true then S.act.settle (fun _ => 255) else S.act

def Dk.crash (S : Dk) (keep : List Int) : Dk := { S.settle (maskOf keep) with left := -1, down := false }

def ats (S : Dk) (k : Nat) : List Int := (S.pending.take k).map (·.1)
theorem ats_succ {k : Nat} {x : Int × List Int} (h : S.pending[k]? = some x) : ats S (k + 1) = ats S k ++ [x.1] := by
  unfold ats
  obtain ⟨hk, rfl⟩ := List.getElem?_eq_some_iff.1 h
  rw [List.take_succ_eq_append_getElem hk, List.map_append]
  rfl

def nOf (pages : Int) : Nat := if pages < 0 then 0 else if 244 < pages then 244 else pages.toNat
def Dk.new (pages : Int) : Dk := { stable := List.replicate (nOf pages) zpg, bad := fun _ => 0, pending := [], left := -1, down := false, cnt := 0 }
theorem nOf_le (pages : Int) : nOf pages ≤ 244 := by unfold nOf; split <;> (try split) <;> omega
theorem made_pgs (n : Nat) : (madeCells (Value.agg (nums .u8 zpg).toArray).cells (n * 256)).toList = pgs (List.replicate n zpg) := by
  have h1 : (madeCells (Value.agg (nums .u8 zpg).toArray).cells (n * 256)).toList = List.replicate (n * 256) (.int .u8 0) := by
    rw [List.eq_replicate_iff]
    refine ⟨by simp [size_madeCells], fun x hx => ?_⟩
    unfold madeCells at hx
    simp only [Array.toList_map, List.mem_map] at hx
    obtain ⟨i, -, rfl⟩ := hx
    have hz : (Value.agg (nums .u8 zpg).toArray).cells = (nums .u8 zpg).toArray := rfl
    have hs : (nums .u8 zpg).toArray.size = 256 := by rw [List.size_toArray, nums_length, zlen]
    rw [hz, hs]
    have hlt : i % 256 < (nums .u8 zpg).toArray.size := by rw [hs]; omega
    rw [getElem!_pos (nums .u8 zpg).toArray (i % 256) hlt]
    simp only [List.getElem_toArray, nums, List.getElem_map, zpg, List.getElem_replicate]
  rw [h1]
  have h2 : pgs (List.replicate n zpg) = List.replicate (n * 256) (.int .u8 0) := by
    rw [List.eq_replicate_iff]
    refine ⟨by rw [pgs_length _ (fun p hp => by rw [(List.mem_replicate.1 hp).2]; exact zlen), List.length_replicate], fun x hx => ?_⟩
    unfold pgs at hx
    obtain ⟨p, hp, hx⟩ := List.mem_flatMap.1 hx
    rw [(List.mem_replicate.1 hp).2] at hx
    unfold nums zpg at hx
    obtain ⟨y, hy, rfl⟩ := List.mem_map.1 hx
    rw [(List.mem_replicate.1 hy).2]
  rw [h2]
theorem new_ok (pages : Int) : (Dk.new pages).ok := by
  refine ⟨fun p hp => ?_, ?_, by show (-1 : Int) ≤ -1; omega, by show (-1 : Int) < _; omega, fun x hx => by cases hx⟩
  · have : p ∈ List.replicate (nOf pages) zpg := hp
    rw [(List.mem_replicate.1 this).2]; exact zlen
  · show (List.replicate (nOf pages) zpg).length ≤ 244
    rw [List.length_replicate]; exact nOf_le pages

theorem max_n (pages : Int) : (if (if 244 < pages then 244 else pages) > (0 : Int) then (if 244 < pages then 244 else pages) else 0) = (nOf pages : Int) := by
  unfold nOf
  split <;> split <;> (try split) <;> omega

set_option maxRecDepth 10000 in
theorem new_any (HS : St w0 F W L) (pages : Int) : Calls Try.prog 21 #[.int .i64 pages] W fun e w' => ∃ D gs gm, e = .returned (.pointer (some ⟨D, 0, none⟩)) ∧ St w0 F w' (dsk D gs gm (.slice none 0 0) (Dk.new pages) L) := by
  have hnl := nOf_le pages
  · skip
    refine c_enter Try.func21 rfl 10 rfl [.int .i64 pages, undef, undef, undef, undef, undef, undef, undef, undef, undef] rfl ?_
    refine wp_seq_k (fun K1 hK2 => ?_)
    refine c_region (fun ops4 hops3 => ?_)
    clear hops3
    refine p_run (l' := _) _ (x_assign (.pointer none) rfl rfl) rfl ?_
    refine wpList_nil ?_
    refine fr_at (l' := [.int .i64 pages, undef, .pointer none, undef, undef, undef, undef, undef, undef, undef]) rfl ?_
    refine hK2 _ _ ?_
    refine wp_seq_k (fun K5 hK6 => ?_)
    refine c_region (fun ops8 hops7 => ?_)
    clear hops7
    refine p_run (l' := _) _ (x_move (.int .i64 pages) rfl rfl) rfl ?_
    refine p_run (l' := _) _ (x_min (m := pages) (n := 244) (if 244 < pages then 244 else pages) rfl rfl rfl rfl) rfl ?_
    refine p_run (l' := _) _ (x_max (m := 0) (n := if 244 < pages then 244 else pages) ((nOf pages : Int)) rfl rfl rfl (max_n pages)) rfl ?_
    refine St.wMake HS (n := (nOf pages)) (bytes := 256) (.agg ((nums .u8 zpg)).toArray) 256 Try.underlying72 (by kernel_rfl) rfl rfl (by omega) (by omega) ?_
    clear HS
    intro g9 w10 hg11 HS
    rw [made_pgs] at HS
    refine fr_to (l' := [.int .i64 pages, undef, .pointer none, .int .i64 pages, .int .i64 (if 244 < pages then 244 else pages), .int .i64 (nOf pages : Int), .slice (some ⟨g9, 0, none⟩) (nOf pages) (nOf pages), undef, undef, undef]) rfl ?_
    refine St.mapMake HS ?_
    clear HS
    intro g12 w13 hg14 HS
    refine p_run (l' := _) _ (x_build [.slice (some ⟨g9, 0, none⟩) (nOf pages) (nOf pages), .map (some g12), .slice none 0 0, .int .i64 (-1), .bool false] rfl (by kernel_rfl)) rfl ?_
    refine St.wBox HS (cs := [.slice (some ⟨g9, 0, none⟩) (nOf pages) (nOf pages), .map (some g12), .slice none 0 0, .int .i64 (-1), .bool false]) (.agg ([.slice (some ⟨g9, 0, none⟩) (nOf pages) (nOf pages), .map (some g12), .slice none 0 0, .int .i64 (-1), .bool false] : List Value).toArray) rfl rfl ?_
    clear HS
    intro g15 w16 hg17 HS
    refine p_run (l' := [.int .i64 pages, undef, .pointer (some ⟨g15, 0, none⟩), .int .i64 pages, .int .i64 (if 244 < pages then 244 else pages), .int .i64 (nOf pages : Int), .slice (some ⟨g9, 0, none⟩) (nOf pages) (nOf pages), .map (some g12), .agg ([.slice (some ⟨g9, 0, none⟩) (nOf pages) (nOf pages), .map (some g12), .slice none 0 0, .int .i64 (-1), .bool false] : List Value).toArray, .pointer (some ⟨g15, 0, none⟩)]) _ (x_assign (.pointer (some ⟨g15, 0, none⟩)) rfl rfl) rfl ?_
    refine wpList_nil ?_
    refine hK6 _ _ ?_
    refine wp_ret ?_
    try simp only [Exit.inBlock, Exit.then]
    refine c_ret (.pointer (some ⟨g15, 0, none⟩)) (r_tmp rfl rfl) ?_
    replace HS := HS.nil kWr rfl 102
    refine ⟨g15, g9, g12, rfl, ?_⟩
    have e1 : (Dk.new pages).stable.length = nOf pages := List.length_replicate
    show St _ _ _ (blk _ [.slice _ (Dk.new pages).stable.length (Dk.new pages).stable.length, _, _, _, _] _ :: _)
    rw [e1]
    exact (((HS.front 2 rfl).front 3 rfl).front 3 rfl)
end
end Go.Proofs.Ytiokdpnhaemciaa
