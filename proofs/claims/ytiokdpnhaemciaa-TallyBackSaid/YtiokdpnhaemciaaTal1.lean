/- Package tally: Page, Open, Area, Used. -/
import Derived.Test.YtiokdpnhaemciaaByW
import Derived.Test.YtiokdpnhaemciaaSealB
import Derived.Test.YtiokdpnhaemciaaPut
set_option linter.unusedVariables false
set_option linter.unusedSimpArgs false
namespace Go.Proofs.Ytiokdpnhaemciaa
open Go.RowKit Go.Proofs.YtiokdpnhaemciaaW.PrintWords Go.Proofs.YtiokdpnhaemciaaW.PrintLast Crc
section
variable {w0 W : World} {F : Nat → Prop} {L : List Res}
/-- A generation's bytes. -/
def gnB (g : UInt64) : List UInt8 := leB 8 g.toNat
theorem gnB_length (g : UInt64) : (gnB g).length = 8 := leB_length 8 _
theorem ru_one {w : World} {q t : Nat} {g : UInt64} (h : (blk q [.int .u64 (uv g)] t).holds w) : Ru w (some ⟨q, 0, none⟩) [g] := by
  refine ⟨rfl, by simp, fun _ => ⟨_, rfl, fun j p hj => ?_⟩⟩
  match j, hj with
  | 0, hj =>
    obtain rfl : g = p := by simpa using hj
    refine ⟨[.int .u64 (uv g)], rfl, rfl, fun i u hu => ?_⟩
    match i, hu with
    | 0, hu =>
      obtain rfl : _ = u := by simpa using hu
      have := bkCell h 0 _ rfl
      simpa [kU64, Kd.scalar, Addr.add] using this
theorem put8 (g : UInt64) : putBytes [] 8 [g] = gnB g ∧ putErr 8 [g] = 0 := by
  have h : putOk 8 [g] = true := by
    have := g.toNat_lt
    unfold putOk fits
    simp only [List.all_cons, List.all_nil, Bool.and_true, Bool.and_eq_true, decide_eq_true_eq]
    exact ⟨by decide, by show g.toNat < 256 ^ 8; omega⟩
  unfold putBytes putErr
  rw [if_pos h, if_pos h]
  exact ⟨by simp [packs, gnB], rfl⟩
/-- A number of 64 bits as bytes of its own. -/
theorem put8_any (HS : St w0 F W L) (q t : Nat) (g : UInt64) (hq : (blk q [.int .u64 (uv g)] t).holds W) :
    Calls Try.prog 31 #[.slice none 0 0, .int .i64 8, .slice (some ⟨q, 0, none⟩) 1 1] W fun e w' => ∃ A c, e = .returned (.tuple #[.slice A 8 c, .int .i64 0]) ∧ St w0 F w' (row kByte rfl 5 (.slice A 8 c) (gnB g) :: L) := by
  refine (put_any none 0 [] 8 _ 1 [g] W (Sl.none _) (ru_one hq) (by simp)).mono ?_
  rintro e w' ⟨A, c, rfl, -, ho, hb⟩
  obtain ⟨e1, e2⟩ := put8 g
  rw [e1] at ho ⊢
  rw [e2, gnB_length]
  rw [gnB_length] at ho
  exact ⟨A, c, rfl, HS.made hb ho⟩
theorem rds_two {w : World} {q t n m c d : Nat} {A B : Option Addr} {xs ys : List UInt8} (h : (blk q [.slice A n c, .slice B m d] t).holds w) (hn : n = xs.length) (hm : m = ys.length) (hc : n ≤ c) (hd : m ≤ d) (hx : Rd w A xs) (hy : Rd w B ys) : Rds w (some ⟨q, 0, none⟩) [xs, ys] := by
  subst hn
  subst hm
  refine ⟨rfl, by simp, fun _ => ⟨_, rfl, fun j p hj => ?_⟩⟩
  match j, hj with
  | 0, hj =>
    obtain rfl : xs = p := by simpa using hj
    refine ⟨[.slice A xs.length c], rfl, ⟨A, c, rfl, hc, hx⟩, fun i u hu => ?_⟩
    match i, hu with
    | 0, hu =>
      obtain rfl : _ = u := by simpa using hu
      have := bkCell h 0 _ rfl
      simpa [kBytes, Kd.slice, Addr.add] using this
  | 1, hj =>
    obtain rfl : ys = p := by simpa using hj
    refine ⟨[.slice B ys.length d], rfl, ⟨B, d, rfl, hd, hy⟩, fun i u hu => ?_⟩
    match i, hu with
    | 0, hu =>
      obtain rfl : _ = u := by simpa using hu
      have := bkCell h 1 _ rfl
      simpa [kBytes, Kd.slice, Addr.add] using this
/-- Bytes sealed. -/
theorem sealR_any (HS : St w0 F W L) (A : Option Addr) (n c m : Nat) (l : List (List UInt8)) (hn : n = l.length) (hr : Rds W A l) (hm : (sealB l.flatten).length = m) (hl : m ≤ 140737488355000) :
    Calls Try.prog 32 #[.slice A n c] W fun e w' => ∃ A c, e = .returned (.slice A m c) ∧ St w0 F w' (row kByte rfl 5 (.slice A m c) (sealB l.flatten) :: L) := by
  subst hn
  have h1 := sealB_length l.flatten
  refine (seal_any A c l W hr (by omega)).mono ?_
  rintro e w' ⟨v, rfl, ho, hb⟩
  obtain ⟨A', c', rfl, _⟩ := ho.reads
  rw [hm] at ho ⊢
  exact ⟨A', c', rfl, HS.made hb ho⟩
/-- A page of counts. -/
def tlB (g : UInt64) (c : List UInt8) : List UInt8 := sealB (gnB g ++ c) ++ [0, 0, 0, 0]
def tlP (g : UInt64) (c : List UInt8) : List Int := (tlB g c).map bv
theorem tlB_length (g : UInt64) {c : List UInt8} (h : c.length = 240) : (tlB g c).length = 256 := by
  unfold tlB
  rw [List.length_append, sealB_length, List.length_append, gnB_length, h]
  rfl
theorem tlP_len (g : UInt64) {c : List UInt8} (h : c.length = 240) : (tlP g c).length = 256 := by unfold tlP; rw [List.length_map, tlB_length g h]
theorem tal_lay (g : UInt64) {c : List UInt8} (h : c.length = 240) : lay (nums .u8 zpg) 0 (nums .u8 ((sealB [gnB g, c].flatten).map bv)) = nums .u8 (tlP g c) := by
  have hl : (sealB (gnB g ++ c)).length = 252 := by rw [sealB_length, List.length_append, gnB_length, h]
  have e : [gnB g, c].flatten = gnB g ++ c := by simp
  rw [e]
  unfold lay tlP tlB
  rw [List.take_zero, List.nil_append, Nat.zero_add, nums_length, List.length_map, hl, List.map_append]
  have hz : (nums .u8 zpg).drop 252 = nums .u8 (List.map bv [0, 0, 0, 0]) := by kernel_rfl
  rw [hz]
  simp only [nums, List.map_append]

set_option maxRecDepth 10000 in
set_option maxHeartbeats 1000000 in
theorem tpage_any (HS : St w0 F W L) (g : UInt64) (c : List UInt8) (hc : c.length = 240) : Calls Try.prog 13 #[.int .u64 (uv g), .agg ((nums .u8 (c.map bv))).toArray] W fun e w' => e = .returned (.agg (nums .u8 (tlP g c)).toArray) ∧ St w0 F w' L := by
  refine c_enter Try.func13 rfl 21 rfl [.int .u64 (uv g), .agg ((nums .u8 (c.map bv))).toArray, undef, undef, undef, undef, undef, undef, undef, undef, undef, undef, undef, undef, undef, undef, undef, undef, undef, undef, undef] rfl ?_
  refine wp_seq_k (fun K1 hK2 => ?_)
  refine c_region (fun ops4 hops3 => ?_)
  clear hops3
  refine St.wBox HS (cs := ((nums .u8 (c.map bv)))) (.agg ((nums .u8 (c.map bv))).toArray) rfl rfl ?_
  clear HS
  intro g5 w6 hg7 HS
  refine St.wAlloc HS (cs := ((nums .u8 zpg))) (.agg ((nums .u8 zpg)).toArray) (by kernel_rfl) rfl ?_
  clear HS
  intro g8 w9 hg10 HS
  refine wpList_nil ?_
  refine fr_at (l' := [.int .u64 (uv g), .agg ((nums .u8 (c.map bv))).toArray, undef, .pointer (some ⟨g5, 0, none⟩), .pointer (some ⟨g8, 0, none⟩), undef, undef, undef, undef, undef, undef, undef, undef, undef, undef, undef, undef, undef, undef, undef, undef]) rfl ?_
  refine hK2 _ _ ?_
  refine wp_seq_k (fun K11 hK12 => ?_)
  refine c_region (fun ops14 hops13 => ?_)
  clear hops13
  refine St.wAlloc HS (cs := ((nums .u8 zpg))) (.agg ((nums .u8 zpg)).toArray) (by kernel_rfl) rfl ?_
  clear HS
  intro g15 w16 hg17 HS
  refine wpList_nil ?_
  refine fr_at (l' := [.int .u64 (uv g), .agg ((nums .u8 (c.map bv))).toArray, undef, .pointer (some ⟨g5, 0, none⟩), .pointer (some ⟨g8, 0, none⟩), .pointer (some ⟨g15, 0, none⟩), undef, undef, undef, undef, undef, undef, undef, undef, undef, undef, undef, undef, undef, undef, undef]) rfl ?_
  refine hK12 _ _ ?_
  refine wp_seq_k (fun K18 hK19 => ?_)
  refine c_region (fun ops21 hops20 => ?_)
  clear hops20
  refine p_run (l' := _) _ (x_move (.int .u64 (uv g)) rfl rfl) rfl ?_
  refine St.wLit1 HS [.int .u64 (uv g)] 1 (.int .u64 0) (.int .u64 (uv g)) Try.underlying90 (by kernel_rfl) (by decide) rfl rfl rfl ?_
  clear HS
  intro g22 w23 hg24 HS
  refine w_call [.slice none 0 0, .int .i64 8, .slice (some ⟨g22, 0, none⟩) 1 1] Try.func31 (by kernel_rfl) (by rfl) rfl ?_
  refine (put8_any HS g22 _ g (HS.get (.head _))).mono ?_
  clear HS
  rintro e w27 ⟨oa25, nc26, rfl, HS⟩
  refine ⟨_, rfl, ?_⟩
  refine p_run (l' := [.int .u64 (uv g), .agg ((nums .u8 (c.map bv))).toArray, undef, .pointer (some ⟨g5, 0, none⟩), .pointer (some ⟨g8, 0, none⟩), .pointer (some ⟨g15, 0, none⟩), undef, undef, .tuple [.slice oa25 8 nc26, .int .i64 0].toArray, .int .u64 (uv g), .slice (some ⟨g22, 0, none⟩) 1 1, .tuple [.slice oa25 8 nc26, .int .i64 0].toArray, undef, undef, undef, undef, undef, undef, undef, undef, undef]) _ (x_move (.tuple [.slice oa25 8 nc26, .int .i64 0].toArray) rfl rfl) rfl ?_
  refine p_run (l' := _) _ (x_extract (vs := [.slice oa25 8 nc26, .int .i64 0]) 0 (.slice oa25 8 nc26) rfl rfl rfl) rfl ?_
  refine p_run (l' := _) _ (x_extract (vs := [.slice oa25 8 nc26, .int .i64 0]) 1 (.int .i64 0) rfl rfl rfl) rfl ?_
  refine p_run (l' := _) _ (x_assign (.slice oa25 8 nc26) rfl rfl) rfl ?_
  refine p_run (l' := [.int .u64 (uv g), .agg ((nums .u8 (c.map bv))).toArray, undef, .pointer (some ⟨g5, 0, none⟩), .pointer (some ⟨g8, 0, none⟩), .pointer (some ⟨g15, 0, none⟩), .slice oa25 8 nc26, .int .i64 0, .tuple [.slice oa25 8 nc26, .int .i64 0].toArray, .int .u64 (uv g), .slice (some ⟨g22, 0, none⟩) 1 1, .tuple [.slice oa25 8 nc26, .int .i64 0].toArray, .slice oa25 8 nc26, .int .i64 0, undef, undef, undef, undef, undef, undef, undef]) _ (x_assign (.int .i64 0) rfl rfl) rfl ?_
  refine wpList_nil ?_
  refine hK19 _ _ ?_
  refine wp_seq_k (fun K28 hK29 => ?_)
  refine free_frame (n := 6) (T := _) [0, 0, 0, 6, 14, 31] [(0, 14), (1, 15), (2, 16), (3, 17), (4, 18), (5, 19)] (fun bq_ vq_ w_ => qv ((fun i_ => match i_ with | 0 => some (.slice (some ⟨g15, 0, none⟩) 256 256) | 1 => some (.slice oa25 8 nc26) | 2 => some (.slice (some ⟨g5, 0, none⟩) 240 240) | _ => none) : Nat → Option Value) bq_ vq_ ∧ cond (bq_ 5) (∃ (g32 : Nat) (oa35 : Option Addr) (nc36 : Nat), vq_ 3 = .slice (some ⟨g32, 0, none⟩) 2 2 ∧ vq_ 4 = .slice oa35 252 nc36 ∧ vq_ 5 = .int .i64 ((nums .u8 ((sealB [(gnB g), c].flatten).map bv)).length : Int) ∧ St w0 F w_ (blk g15 ((nums .u8 (tlP g c))) 27 :: row kByte rfl 5 (.slice oa35 252 nc36) (sealB [(gnB g), c].flatten) :: blk g32 [.slice oa25 8 nc26, .slice (some ⟨g5, 0, none⟩) 240 240] 65 :: row kByte rfl 5 (.slice oa25 8 nc26) (gnB g) :: blk g22 [.int .u64 (uv g)] 22 :: blk g8 ((nums .u8 zpg)) 27 :: blk g5 ((nums .u8 (c.map bv))) 29 :: L)) (cond (bq_ 4) (∃ (g32 : Nat) (oa35 : Option Addr) (nc36 : Nat), vq_ 3 = .slice (some ⟨g32, 0, none⟩) 2 2 ∧ vq_ 4 = .slice oa35 252 nc36 ∧ St w0 F w_ (row kByte rfl 5 (.slice oa35 252 nc36) (sealB [(gnB g), c].flatten) :: blk g32 [.slice oa25 8 nc26, .slice (some ⟨g5, 0, none⟩) 240 240] 65 :: row kByte rfl 5 (.slice oa25 8 nc26) (gnB g) :: blk g22 [.int .u64 (uv g)] 22 :: blk g15 ((nums .u8 zpg)) 27 :: blk g8 ((nums .u8 zpg)) 27 :: blk g5 ((nums .u8 (c.map bv))) 29 :: L)) (cond (bq_ 3) (∃ (g32 : Nat), vq_ 3 = .slice (some ⟨g32, 0, none⟩) 2 2 ∧ St w0 F w_ (blk g32 [.slice oa25 8 nc26, .slice (some ⟨g5, 0, none⟩) 240 240] 65 :: row kByte rfl 5 (.slice oa25 8 nc26) (gnB g) :: blk g22 [.int .u64 (uv g)] 22 :: blk g15 ((nums .u8 zpg)) 27 :: blk g8 ((nums .u8 zpg)) 27 :: blk g5 ((nums .u8 (c.map bv))) 29 :: L)) ((St w0 F w_ (row kByte rfl 5 (.slice oa25 8 nc26) (gnB g) :: blk g22 [.int .u64 (uv g)] 22 :: blk g15 ((nums .u8 zpg)) 27 :: blk g8 ((nums .u8 zpg)) 27 :: blk g5 ((nums .u8 (c.map bv))) 29 :: L)))))) (by kernel_rfl) rfl rfl (by kernel_rfl) (by kernel_rfl) rfl (by kernel_rfl) (by kernel_rfl) ⟨qv_none, HS.draw⟩ ?_ ?_
  · clear HS
    intro i_ hi_ bq_ vq_ a_ w_ hG hb_ hon hoff hfr hel hval
    obtain ⟨hV, hE⟩ := hG
    have hi_ := List.mem_range.1 hi_
    have hcs : i_ = 0 ∨ i_ = 1 ∨ i_ = 2 ∨ i_ = 3 ∨ i_ = 4 ∨ i_ = 5 := by omega
    rcases hcs with rfl | rfl | rfl | rfl | rfl | rfl
    · have h5 : a_.tmps[5]? = some (.pointer (some ⟨g15, 0, none⟩)) := (hel 5 (by decide)).trans rfl
      obtain ⟨l_, rfl⟩ := hfr
      have e5 : evl l_ (.tmp 5) = .pointer (some ⟨g15, 0, none⟩) := evl_of h5
      refine ⟨_, rfl, fun K_ hK_ => wp_of_list rfl ?_⟩
      intro ops_
      refine p_run (l' := _) (.slice (some ⟨g15, 0, none⟩) 256 256) ((x_sliceArr (sz := 1) (L := none) (H := none) (lo := 0) (hi := 256) ⟨g15, 0, none⟩ rfl e5 Try.underlying27 (by kernel_rfl) rfl rfl (by omega) (by omega) (by first | rfl | (rw [if_neg (by omega), add_mk]; rfl))).trans rfl) rfl ?_
      refine wpList_nil ?_
      exact norm_put (hK_ (.slice (some ⟨g15, 0, none⟩) 256 256) _ ⟨qv_up hV (fun _ h => Option.some.inj h), hE⟩)
    · have h6 : a_.tmps[6]? = some (.slice oa25 8 nc26) := (hel 6 (by decide)).trans rfl
      obtain ⟨l_, rfl⟩ := hfr
      have e6 : evl l_ (.tmp 6) = .slice oa25 8 nc26 := evl_of h6
      refine ⟨_, rfl, fun K_ hK_ => wp_of_list rfl ?_⟩
      intro ops_
      refine p_run (l' := _) _ (x_move (.slice oa25 8 nc26) rfl e6) rfl ?_
      refine wpList_nil ?_
      exact norm_put (hK_ (.slice oa25 8 nc26) _ ⟨qv_up hV (fun _ h => Option.some.inj h), hE⟩)
    · have h3 : a_.tmps[3]? = some (.pointer (some ⟨g5, 0, none⟩)) := (hel 3 (by decide)).trans rfl
      obtain ⟨l_, rfl⟩ := hfr
      have e3 : evl l_ (.tmp 3) = .pointer (some ⟨g5, 0, none⟩) := evl_of h3
      refine ⟨_, rfl, fun K_ hK_ => wp_of_list rfl ?_⟩
      intro ops_
      refine p_run (l' := _) (.slice (some ⟨g5, 0, none⟩) 240 240) ((x_sliceArr (sz := 1) (L := none) (H := none) (lo := 0) (hi := 240) ⟨g5, 0, none⟩ rfl e3 Try.underlying29 (by kernel_rfl) rfl rfl (by omega) (by omega) (by first | rfl | (rw [if_neg (by omega), add_mk]; rfl))).trans rfl) rfl ?_
      refine wpList_nil ?_
      exact norm_put (hK_ (.slice (some ⟨g5, 0, none⟩) 240 240) _ ⟨qv_up hV (fun _ h => Option.some.inj h), hE⟩)
    · have h15 : a_.tmps[15]? = some (.slice oa25 8 nc26) := (hval (1, 15) (by decide) (hon 1 (by decide))).trans (congrArg some (hV 1 _ rfl (hon 1 (by decide))))
      have h16 : a_.tmps[16]? = some (.slice (some ⟨g5, 0, none⟩) 240 240) := (hval (2, 16) (by decide) (hon 2 (by decide))).trans (congrArg some (hV 2 _ rfl (hon 2 (by decide))))
      obtain ⟨l_, rfl⟩ := hfr
      have hE0 := hE
      rw [show bq_ 5 = false from (hoff 5 (by decide))] at hE0
      rw [show bq_ 4 = false from (hoff 4 (by decide))] at hE0
      rw [show bq_ 3 = false from hb_] at hE0
      simp only [cond_true, cond_false] at hE0
      have HS := hE0
      have e15 : evl l_ (.tmp 15) = .slice oa25 8 nc26 := evl_of h15
      have e16 : evl l_ (.tmp 16) = .slice (some ⟨g5, 0, none⟩) 240 240 := evl_of h16
      refine ⟨_, rfl, fun K_ hK_ => wp_of_list rfl ?_⟩
      intro ops_
      refine St.wLit HS (cs := [.slice oa25 8 nc26, .slice (some ⟨g5, 0, none⟩) 240 240]) 1 (.slice none 0 0) Try.underlying93 (by kernel_rfl) (by decide) (by show Instr.fill _ _ (Array.map (fun x : Nat × Operand => (x.1, evl l_ x.2)) #[(0, Operand.tmp 15), (1, Operand.tmp 16)]).toList = _; rw [show (Array.map (fun x : Nat × Operand => (x.1, evl l_ x.2)) #[(0, Operand.tmp 15), (1, Operand.tmp 16)]).toList = [(0, .slice oa25 8 nc26), (1, .slice (some ⟨g5, 0, none⟩) 240 240)] from by simp [e15, e16]]; kernel_rfl) ?_
      clear HS
      intro g9301 w9302 hg9303 HS
      refine wpList_nil ?_
      refine norm_put (hK_ (.slice (some ⟨g9301, 0, none⟩) 2 2) _ ⟨qv_up hV (by intro _ h; cases h), ?_⟩)
      show cond (bq_ 5) _ _
      rw [show bq_ 5 = false from hoff 5 (by decide), cond_false]
      show cond (bq_ 4) _ _
      rw [show bq_ 4 = false from hoff 4 (by decide), cond_false]
      show cond true _ _
      rw [cond_true]
      exact ⟨g9301, rfl, ((((((HS.front 5 rfl).front 5 rfl).front 5 rfl).front 5 rfl).front 5 rfl).front 5 rfl)⟩
    · have h17 := hval (3, 17) (by decide) (hon 3 (by decide))
      obtain ⟨l_, rfl⟩ := hfr
      have hE0 := hE
      rw [show bq_ 5 = false from (hoff 5 (by decide))] at hE0
      rw [show bq_ 4 = false from hb_] at hE0
      rw [show bq_ 3 = true from (hon 3 (by decide))] at hE0
      simp only [cond_true, cond_false] at hE0
      obtain ⟨g32, hv3, HS⟩ := hE0
      rw [hv3] at h17
      have e17 : evl l_ (.tmp 17) = .slice (some ⟨g32, 0, none⟩) 2 2 := evl_of h17
      refine ⟨_, rfl, fun K_ hK_ => wp_of_list rfl ?_⟩
      intro ops_
      refine w_call [.slice (some ⟨g32, 0, none⟩) 2 2] Try.func32 (by kernel_rfl) (by rfl) (by simp [e17]) ?_
      refine (sealR_any HS _ 2 2 252 [(gnB g), c] rfl (rds_two (HS.get (.head _)) (row_rd (HS.get (.tail _ (.head _)))).1 hc.symm (row_rd (HS.get (.tail _ (.head _)))).2.1 (by omega) (row_rd (HS.get (.tail _ (.head _)))).2.2 (rd_blk (HS.get (.tail _ (.tail _ (.tail _ (.tail _ (.tail _ (.head _))))))) (by omega))) (by rw [sealB_length]; simp [gnB_length, hc]) (by omega)).mono ?_
      clear HS
      rintro e w9403 ⟨oa9401, nc9402, rfl, HS⟩
      refine ⟨_, rfl, ?_⟩
      refine wpList_nil ?_
      refine norm_put (hK_ (.slice oa9401 252 nc9402) _ ⟨qv_up hV (by intro _ h; cases h), ?_⟩)
      show cond (bq_ 5) _ _
      rw [show bq_ 5 = false from hoff 5 (by decide), cond_false]
      show cond true _ _
      rw [cond_true]
      exact ⟨g32, oa9401, nc9402, hv3, rfl, (((((((HS.front 6 rfl).front 6 rfl).front 6 rfl).front 6 rfl).front 6 rfl).front 6 rfl).front 6 rfl)⟩
    · have h14 : a_.tmps[14]? = some (.slice (some ⟨g15, 0, none⟩) 256 256) := (hval (0, 14) (by decide) (hon 0 (by decide))).trans (congrArg some (hV 0 _ rfl (hon 0 (by decide))))
      have h18 := hval (4, 18) (by decide) (hon 4 (by decide))
      obtain ⟨l_, rfl⟩ := hfr
      have hE0 := hE
      rw [show bq_ 5 = false from hb_] at hE0
      rw [show bq_ 4 = true from (hon 4 (by decide))] at hE0
      simp only [cond_true, cond_false] at hE0
      obtain ⟨g32, oa35, nc36, hv3, hv4, HS⟩ := hE0
      rw [hv4] at h18
      have e14 : evl l_ (.tmp 14) = .slice (some ⟨g15, 0, none⟩) 256 256 := evl_of h14
      have e18 : evl l_ (.tmp 18) = .slice oa35 252 nc36 := evl_of h18
      refine ⟨_, rfl, fun K_ hK_ => wp_of_list rfl ?_⟩
      intro ops_
      refine St.wCopy (HS.front 4 rfl) Try.underlying65 (by kernel_rfl) e14 e18 (nums .u8 ((sealB [(gnB g), c].flatten).map bv)) (by rw [nums_length, List.length_map, sealB_length]; simp [gnB_length, hc]) (rd_cells (row_rd (HS.get (.head _))).2.2) (by rw [nums_length, List.length_map, sealB_length, nums_length, zlen]; simp [gnB_length, hc]) (nums_one _ _) (tal_lay g hc) ?_
      clear HS
      intro w9501 HS
      rw [fr_put]
      refine wpList_nil ?_
      refine norm_put (hK_ (.int .i64 ((nums .u8 ((sealB [(gnB g), c].flatten).map bv)).length : Int)) _ ⟨qv_up hV (by intro _ h; cases h), ?_⟩)
      show cond true _ _
      rw [cond_true]
      exact ⟨g32, oa35, nc36, hv3, hv4, rfl, (((((((HS.front 6 rfl).front 6 rfl).front 6 rfl).front 6 rfl).front 6 rfl).front 6 rfl).front 6 rfl)⟩
  intro bq_ vq_ w_ hall hG
  obtain ⟨hV, hE⟩ := hG
  clear HS
  rw [show bq_ 5 = true from hall 5 (by decide)] at hE
  simp only [cond_true] at hE
  obtain ⟨g32, oa35, nc36, hv3, hv4, hv5, HS⟩ := hE
  have hv0 := hV 0 _ rfl (hall 0 (by decide))
  have hv1 := hV 1 _ rfl (hall 1 (by decide))
  have hv2 := hV 2 _ rfl (hall 2 (by decide))
  clear hV hall
  rw [putSel_fr]
  simp only [tells, List.map_cons, List.map_nil, setAll, List.set_cons_succ, List.set_cons_zero, hv0, hv1, hv2, hv3, hv4, hv5]
  clear hv0 hv1 hv2 hv3 hv4 hv5
  generalize w_ = w9502 at HS ⊢
  refine fr_at (l' := [.int .u64 (uv g), .agg ((nums .u8 (c.map bv))).toArray, undef, .pointer (some ⟨g5, 0, none⟩), .pointer (some ⟨g8, 0, none⟩), .pointer (some ⟨g15, 0, none⟩), .slice oa25 8 nc26, .int .i64 0, .tuple [.slice oa25 8 nc26, .int .i64 0].toArray, .int .u64 (uv g), .slice (some ⟨g22, 0, none⟩) 1 1, .tuple [.slice oa25 8 nc26, .int .i64 0].toArray, .slice oa25 8 nc26, .int .i64 0, .slice (some ⟨g15, 0, none⟩) 256 256, .slice oa25 8 nc26, .slice (some ⟨g5, 0, none⟩) 240 240, .slice (some ⟨g32, 0, none⟩) 2 2, .slice oa35 252 nc36, .int .i64 ((nums .u8 ((sealB [(gnB g), c].flatten).map bv)).length : Int), undef]) rfl ?_
  refine hK29 _ _ ?_
  refine wp_seq_k (fun K9503 hK9504 => ?_)
  refine c_region (fun ops9506 hops9505 => ?_)
  clear hops9505
  refine p_run (l' := _) _ (x_loads ((nums .u8 (tlP g c))) 256 rfl rfl (bkCells (HS.get (.head _)) 0 _ (whole _)) (by rfl) (by kernel_rfl) (by simp [nums_length, tlP_len g hc])) rfl ?_
  refine St.stores (cs' := ((nums .u8 (tlP g c)))) (HS.front 5 rfl) ((nums .u8 (tlP g c))) 256 rfl rfl (nums_one _ _) (by kernel_rfl) (by simp [nums_length, tlP_len g hc]) (by simp [nums_length, tlP_len g hc, zlen]) (lay_all _ _ (by simp [nums_length, tlP_len g hc, zlen])) ?_
  clear HS
  intro w9507 HS
  refine wpList_nil ?_
  refine fr_at (l' := [.int .u64 (uv g), .agg ((nums .u8 (c.map bv))).toArray, undef, .pointer (some ⟨g5, 0, none⟩), .pointer (some ⟨g8, 0, none⟩), .pointer (some ⟨g15, 0, none⟩), .slice oa25 8 nc26, .int .i64 0, .tuple [.slice oa25 8 nc26, .int .i64 0].toArray, .int .u64 (uv g), .slice (some ⟨g22, 0, none⟩) 1 1, .tuple [.slice oa25 8 nc26, .int .i64 0].toArray, .slice oa25 8 nc26, .int .i64 0, .slice (some ⟨g15, 0, none⟩) 256 256, .slice oa25 8 nc26, .slice (some ⟨g5, 0, none⟩) 240 240, .slice (some ⟨g32, 0, none⟩) 2 2, .slice oa35 252 nc36, .int .i64 ((nums .u8 ((sealB [(gnB g), c].flatten).map bv)).length : Int), .agg ((nums .u8 (tlP g c))).toArray]) rfl ?_
  refine hK9504 _ _ ?_
  refine wp_ret ?_
  try simp only [Exit.inBlock, Exit.then]
  refine c_ret (.agg ((nums .u8 (tlP g c))).toArray) (r_c rfl rfl (run_loadVar_aggn (by rfl) ((nums .u8 (tlP g c))) 256 (by kernel_rfl) (by simp [nums_length, tlP_len g hc]) (bkCells (HS.get (.head _)) 0 _ (whole _)))) ?_
  exact ⟨rfl, HS.drop.drop.drop.drop.drop.drop.drop⟩
end
end Go.Proofs.Ytiokdpnhaemciaa
