-- Written by px.py, a program of this session, over the kit's printer: some functions have a definition and a proof of this session's own.
import Derived.Test.YtphcagjmpaajmaaDoorQFnLogsx0
import Derived.Test.YtphcagjmpaajmaaDoorQFnLogsx7
import Derived.Test.YtphcagjmpaajmaaDoorQFnLogsx8
import Derived.Test.YtphcagjmpaajmaaDoorQFnLogsx9
namespace Go.Proofs.YtphcagjmpaajmaaDoor.QFnLogs
open Go.RowKit Go.Proofs.YtphcagjmpaajmaaDoorW.PrintWords Go.Proofs.YtphcagjmpaajmaaDoorW.PrintLast Go.Proofs.YtphcagjmpaajmaaDoorW.PrintMore
attribute [local go_sem] max2_int min2_int max_two min_two max_three min_three max_four min_four   -- for this text's walks alone
set_option linter.unusedVariables false
set_option linter.unusedSimpArgs false
set_option maxHeartbeats 8000000
set_option maxRecDepth 100000

def spec_l1Cur_log12.l0 : Nat → Int → List Int → Int → Int → ByteArray → ByteArray → Int → Option (ByteArray × ByteArray × Int × Int × Int)
 | 0, _, _, _, _, _, _, _ => none
 | k + 1, x4, x1000, x1001, x1002, x335000, x335001, x335002 => if x4 > 0 then ((spec_l1Cur_logRecord.f x1000 x1001 x1002).bind fun bt338 => ((spec_AppendRecord.f k x335000 x335001 x335002 bt338.1 bt338.2.1).bind fun bt342 => ((spec_l1Cur_one.f x1000 bt338.2.2.1 bt338.2.2.2 4).bind fun bt346 => (if bt346.1 = true then ((spec_SyncLog.f k bt342.1 bt342.2.1 bt342.2.2.1).bind fun bt349 => (spec_l1Cur_log12.l0 k (wrap64 (x4 - 1)) x1000 bt346.2.1 bt346.2.2 bt349.1 bt349.2.1 bt349.2.2.1)) else (spec_l1Cur_log12.l0 k (wrap64 (x4 - 1)) x1000 bt346.2.1 bt346.2.2 bt342.1 bt342.2.1 bt342.2.2.1))))) else (some (x335000, x335001, x335002, x1001, x1002))
def spec_l1Cur_log12.f (k : Nat) (s0_0 : List Int) (s0_1 : Int) (s0_2 : Int) : Option (ByteArray × ByteArray × Int × Int × Int) := (spec_l1Cur_pick.f s0_0 s0_1 s0_2 7).bind fun bt335 => (spec_l1Cur_log12.l0 k bt335.1 s0_0 bt335.2.1 bt335.2.2 (⟨#[]⟩ : ByteArray) (⟨#[]⟩ : ByteArray) 0)
theorem spec_l1Cur_log12.mono_l : ∀ k, (∀ y0 y1 y2 y3 y4 y5 y6, LeO (spec_l1Cur_log12.l0 k y0 y1 y2 y3 y4 y5 y6) (spec_l1Cur_log12.l0 (k + 1) y0 y1 y2 y3 y4 y5 y6))
 | 0 => fun _ _ _ _ _ _ _ r h => by simp [spec_l1Cur_log12.l0] at h
 | k + 1 => by
  have ih0 := spec_l1Cur_log12.mono_l k
  ·intro y0 y1 y2 y3 y4 y5 y6
   unfold spec_l1Cur_log12.l0
   repeat' first
   | (with_reducible exact ih0 _ _ _ _ _ _ _)
   | (with_reducible exact spec_AppendRecord.mono _ _ _ _ _ _)
   | (with_reducible exact spec_SyncLog.mono _ _ _ _)
   | (with_reducible exact LeO.refl _)
   | (with_reducible exact LeO.none _)
   | (with_reducible refine LeO.ite ?_ ?_)
   | (with_reducible refine LeO.bind ?_ (fun _ => ?_))
theorem spec_l1Cur_log12.mono : ∀ a0 a1 a2 k, LeO (spec_l1Cur_log12.f k a0 a1 a2) (spec_l1Cur_log12.f (k + 1) a0 a1 a2) := by
 intro a0 a1 a2 k
 have ih0 := spec_l1Cur_log12.mono_l k
 unfold spec_l1Cur_log12.f
 repeat' first
   | (with_reducible exact ih0 _ _ _ _ _ _ _)
   | (with_reducible exact spec_AppendRecord.mono _ _ _ _ _ _)
   | (with_reducible exact spec_SyncLog.mono _ _ _ _)
   | (with_reducible exact LeO.refl _)
   | (with_reducible exact LeO.none _)
   | (with_reducible refine LeO.ite ?_ ?_)
   | (with_reducible refine LeO.bind ?_ (fun _ => ?_))
def spec_l1Cur_log12.T5 : Bool × List (List Nat × List Nat) := (true, [([], []), ([], []), ([1], [1]), ([0, 2, 2], [0, 2]), ([3], [3]), ([4], [4]), ([4], [4]), ([5, 3, 0, 1, 2, 3, 4, 5], [5])])
def spec_l1Cur_log12.B5 : List Nat := [0, 0, 2, 7, 15, 31, 31, 63]
theorem spec_l1Cur_log12.tab5 : rtab .any (opsOf Tryd.f64 5) = spec_l1Cur_log12.T5 := by kernel_rfl
theorem spec_l1Cur_log12.bits5 : waitsOk spec_l1Cur_log12.T5.2 spec_l1Cur_log12.B5 = true := by kernel_rfl
theorem spec_l1Cur_log12.calls (k : Nat) (g : Nat) (s0_0 : List Int) (s0_1 : Int) (s0_2 : Int) (r1 : ByteArray) (r2 : ByteArray) (r3 : Int) (r4 : Int) (r5 : Int) (w0 w : World) (hI : IsS79 w0 w g s0_0 s0_1 s0_2) (hB : Below w0.heap.size w0 w) (h : spec_l1Cur_log12.f k s0_0 s0_1 s0_2 = some (r1, r2, r3, r4, r5)) :
  Calls Tryd.prog 64 #[.pointer (some ⟨g, 0, none⟩)] w fun e w' => e = .returned (.agg #[.string r1, .string r2, .int .i64 r3]) ∧ IsS79 w0 w' g s0_0 r4 r5 ∧ Below w0.heap.size w0 w' ∧ KeepBut w w' g none := by
 have hu31 := Tryd.underlying31
 have HI0 := A0_ hI
 have HK := A0_ (KeepBut.refl w g none)
 have HL := A0_ hB.size
 clear hI
 have HW0 := A0_ hB.size
 have HB := A0_ hB
 clear hB
 have H : ((spec_l1Cur_pick.f s0_0 s0_1 s0_2 7).bind fun bt335 => (spec_l1Cur_log12.l0 k bt335.1 s0_0 bt335.2.1 bt335.2.2 (⟨#[]⟩ : ByteArray) (⟨#[]⟩ : ByteArray) 0)) = some (r1, r2, r3, r4, r5) := h
 clear h
 replace H := ob_.mp H
 obtain ⟨⟨t335, t336, t337⟩, A20, H⟩ := H
 have A2 := A0_ A20
 clear A20
 have H' := A0_ H
 clear H
 go_enter Tryd.func64, Tryd.ntmps64
 go_wp2_with (first | ((with_reducible refine gd_ (N := 2) rfl ?_); refine be_ ?hg (N := 2) ?hd (cs := #[.string (⟨#[]⟩ : ByteArray), .string (⟨#[]⟩ : ByteArray), .int .i64 0]) (t := 31) ?hr ?_; (case hd => rfl); (case hg => rfl); (case hr => go_simp; first | done | rfl); intro gb333 hg w3 hbox hb; replace HB := A0_ (bt_ (by repeat (with_reducible first | exact HB.out | apply ba_ | apply bn_ | apply bd_ | refine bs_ ?_ (IsS79.ge HI0.out))) hb); have BK333 := A0_ (hbox); have GW333 := A0_ ((by rw [hg]; exact (keep_size (w := w) (g := g) (row := none) (by repeat (with_reducible first | exact HK.out | apply KeepBut.set_ | apply keep_drewN | apply keep_drew | apply keep_alloc))) : w.heap.size ≤ gb333)); have GE333 := A0_ ((Nat.le_trans HW0.out (by rw [hg]; exact (keep_size (w := w) (g := g) (row := none) (by repeat (with_reducible first | exact HK.out | apply KeepBut.set_ | apply keep_drewN | apply keep_drew | apply keep_alloc))) : w.heap.size ≤ gb333) : w0.heap.size ≤ gb333)); replace HK := A0_ (KeepBut.trans (by repeat (with_reducible first | exact HK.out | apply KeepBut.set_ | apply keep_drewN | apply keep_drew | apply keep_alloc)) (KeepBut.of_below hb g none) (.inl rfl)); have NB0_333 := A0_ ((by rw [hg]; exact Nat.ne_of_lt (IsS79.lt (show IsS79 w0 _ g s0_0 s0_1 s0_2 from by repeat (with_reducible first | exact HI0.out | apply IsS79.alloc | apply IsS79.drewN | apply IsS79.drew | apply IsS79.set_1 | apply IsS79.set_2))) : g ≠ gb333)); have NB333_0 := A0_ ((by rw [hg]; exact Nat.ne_of_gt (IsS79.lt (show IsS79 w0 _ g s0_0 s0_1 s0_2 from by repeat (with_reducible first | exact HI0.out | apply IsS79.alloc | apply IsS79.drewN | apply IsS79.drew | apply IsS79.set_1 | apply IsS79.set_2))) : gb333 ≠ g)); replace HI0 := A0_ (IsS79.below (by repeat (with_reducible first | exact HI0.out | apply IsS79.alloc | apply IsS79.drewN | apply IsS79.drew | apply IsS79.set_1 | apply IsS79.set_2)) hb); clear hb hbox hg) | ((with_reducible refine gd_ (N := 3) rfl ?_); refine be_ ?hg (N := 3) ?hd (cs := #[.string (⟨#[]⟩ : ByteArray), .string (⟨#[]⟩ : ByteArray), .int .i64 0]) (t := 31) ?hr ?_; (case hd => rfl); (case hg => rfl); (case hr => go_simp; first | done | rfl); intro gb334 hg w4 hbox hb; replace HB := A0_ (bt_ (by repeat (with_reducible first | exact HB.out | apply ba_ | apply bn_ | apply bd_ | refine bs_ ?_ (IsS79.ge HI0.out) | refine bs_ ?_ GE333.out)) hb); have BK334 := A0_ (hbox); have GW334 := A0_ ((by rw [hg]; exact (keep_size (w := w) (g := g) (row := none) (by repeat (with_reducible first | exact HK.out | apply KeepBut.set_ | apply keep_drewN | apply keep_drew | apply keep_alloc | refine keep_far ?_ GW333.out _))) : w.heap.size ≤ gb334)); have GE334 := A0_ ((Nat.le_trans HW0.out (by rw [hg]; exact (keep_size (w := w) (g := g) (row := none) (by repeat (with_reducible first | exact HK.out | apply KeepBut.set_ | apply keep_drewN | apply keep_drew | apply keep_alloc | refine keep_far ?_ GW333.out _))) : w.heap.size ≤ gb334) : w0.heap.size ≤ gb334)); replace HK := A0_ (KeepBut.trans (by repeat (with_reducible first | exact HK.out | apply KeepBut.set_ | apply keep_drewN | apply keep_drew | apply keep_alloc | refine keep_far ?_ GW333.out _)) (KeepBut.of_below hb g none) (.inl rfl)); have NB333_334 := A0_ ((by rw [hg]; exact Nat.ne_of_lt (blk_lt (g := gb333) (o := .cells #[.string (⟨#[]⟩ : ByteArray), .string (⟨#[]⟩ : ByteArray), .int .i64 0] 31 (0, 0)) (by (with_reducible repeat (first | apply kn_ | apply kd_ | apply ka_)); exact BK333.out)) : gb333 ≠ gb334)); have NB334_333 := A0_ ((by rw [hg]; exact Nat.ne_of_gt (blk_lt (g := gb333) (o := .cells #[.string (⟨#[]⟩ : ByteArray), .string (⟨#[]⟩ : ByteArray), .int .i64 0] 31 (0, 0)) (by (with_reducible repeat (first | apply kn_ | apply kd_ | apply ka_)); exact BK333.out)) : gb334 ≠ gb333)); replace BK333 := A0_ (kb_ (g := gb333) (o := .cells #[.string (⟨#[]⟩ : ByteArray), .string (⟨#[]⟩ : ByteArray), .int .i64 0] 31 (0, 0)) (by (with_reducible repeat (first | apply kn_ | apply kd_ | apply ka_)); exact BK333.out) hb); have NB0_334 := A0_ ((by rw [hg]; exact Nat.ne_of_lt (IsS79.lt (show IsS79 w0 _ g s0_0 s0_1 s0_2 from by repeat (with_reducible first | exact HI0.out | apply IsS79.alloc | apply IsS79.drewN | apply IsS79.drew | apply IsS79.set_1 | apply IsS79.set_2 | refine IsS79.far ?_ NB0_333.out _))) : g ≠ gb334)); have NB334_0 := A0_ ((by rw [hg]; exact Nat.ne_of_gt (IsS79.lt (show IsS79 w0 _ g s0_0 s0_1 s0_2 from by repeat (with_reducible first | exact HI0.out | apply IsS79.alloc | apply IsS79.drewN | apply IsS79.drew | apply IsS79.set_1 | apply IsS79.set_2 | refine IsS79.far ?_ NB0_333.out _))) : gb334 ≠ g)); replace HI0 := A0_ (IsS79.below (by repeat (with_reducible first | exact HI0.out | apply IsS79.alloc | apply IsS79.drewN | apply IsS79.drew | apply IsS79.set_1 | apply IsS79.set_2 | refine IsS79.far ?_ NB0_333.out _)) hb); clear hb hbox hg; have hnb5 := NB334_333.out; have hnc5 := NB333_334.out; have hnb6 := NB334_0.out; have hnc6 := NB0_334.out; have hcz7_0 : w4.cell? ⟨gb334, 0, none⟩ = some (.string (⟨#[]⟩ : ByteArray)) := (kc_ BK334.out 0).trans rfl; have hcz7_1 : w4.cell? ⟨gb334, 1, none⟩ = some (.string (⟨#[]⟩ : ByteArray)) := (kc_ BK334.out 1).trans rfl; have hcz7_2 : w4.cell? ⟨gb334, 2, none⟩ = some (.int .i64 0) := (kc_ BK334.out 2).trans rfl; have hfz7_0 := kf_ BK334.out 0; have hfz7_1 := kf_ BK334.out 1; have hfz7_2 := kf_ BK334.out 2) | ((with_reducible refine gc_ (f := 61) rfl ?_); refine goesL_ (some 7) rfl rfl Tryd.func61 (by kernel_rfl) rfl #[.pointer (some ⟨g, 0, none⟩), .int .i64 7] rfl (by (try simp only [ma_, mc_, mn_]); first | done | rfl | (simp only [ld_, lt_]; rfl)) ?_; (with_reducible refine (spec_l1Cur_pick.calls g s0_0 s0_1 s0_2 7 t335 t336 t337 w0 _ ?side1 ?side2 A2.out).mono ?_); (case side1 => repeat (with_reducible first | exact HI0.out | apply IsS79.alloc | apply IsS79.drewN | apply IsS79.drew | apply IsS79.set_1 | apply IsS79.set_2 | refine IsS79.far ?_ NB0_333.out _ | refine IsS79.far ?_ NB0_334.out _)); (case side2 => repeat (with_reducible first | exact HB.out | apply ba_ | apply bn_ | apply bd_ | refine bs_ ?_ (IsS79.ge HI0.out) | refine bs_ ?_ GE333.out | refine bs_ ?_ GE334.out)); rintro e w8 ⟨rfl, hi, hb, hk⟩; refine ⟨_, rfl, ?_⟩; replace BK333 := A0_ (KeepBut.blk hk (g' := gb333) (o := .cells #[.string (⟨#[]⟩ : ByteArray), .string (⟨#[]⟩ : ByteArray), .int .i64 0] 31 (0, 0)) (by (with_reducible repeat (first | apply kn_ | apply kd_ | apply ka_)); refine blk_far ?_ NB333_334.out _; (with_reducible repeat (first | apply kn_ | apply kd_ | apply ka_)); refine blk_far ?_ NB333_334.out _; (with_reducible repeat (first | apply kn_ | apply kd_ | apply ka_)); refine blk_far ?_ NB333_334.out _; (with_reducible repeat (first | apply kn_ | apply kd_ | apply ka_)); exact BK333.out) NB333_0.out (by simp)); replace BK334 := A0_ (KeepBut.blk hk (g' := gb334) (o := .cells #[.string (⟨#[]⟩ : ByteArray), .string (⟨#[]⟩ : ByteArray), .int .i64 0] 31 (0, 0)) (by (with_reducible repeat (first | apply kn_ | apply kd_ | apply ka_)); refine blk_put (cs := #[.string (⟨#[]⟩ : ByteArray), .string (⟨#[]⟩ : ByteArray), .int .i64 0]) ?_ 2 _ rfl; (with_reducible repeat (first | apply kn_ | apply kd_ | apply ka_)); refine blk_put (cs := #[.string (⟨#[]⟩ : ByteArray), .string (⟨#[]⟩ : ByteArray), .int .i64 0]) ?_ 1 _ rfl; (with_reducible repeat (first | apply kn_ | apply kd_ | apply ka_)); refine blk_put (cs := #[.string (⟨#[]⟩ : ByteArray), .string (⟨#[]⟩ : ByteArray), .int .i64 0]) ?_ 0 _ rfl; (with_reducible repeat (first | apply kn_ | apply kd_ | apply ka_)); exact BK334.out) NB334_0.out (by simp)); replace HK := A0_ (KeepBut.trans (by repeat (with_reducible first | exact HK.out | apply KeepBut.set_ | apply keep_drewN | apply keep_drew | apply keep_alloc | refine keep_far ?_ GW333.out _ | refine keep_far ?_ GW334.out _)) hk (.inl rfl)); replace HB := A0_ (hb); replace HI0 := A0_ (hi); (try clear hb); (try clear hk); (try clear hi)))
 go_loopg [4] k (fun kq v4 w' => ∃ (x4_1 : Int) (x1001_1 : Int) (x1002_1 : Int) (x335000_1 : ByteArray) (x335001_1 : ByteArray) (x335002_1 : Int), v4 = .int .i64 x4_1 ∧ Aside0 (spec_l1Cur_log12.l0 kq x4_1 s0_0 x1001_1 x1002_1 x335000_1 x335001_1 x335002_1 = some (r1, r2, r3, r4, r5)) ∧ Aside0 (kq ≤ k) ∧ Aside0 (w'.heap[gb333]? = some (.cells #[.string (⟨#[]⟩ : ByteArray), .string (⟨#[]⟩ : ByteArray), .int .i64 0] 31 (0, 0))) ∧ Aside0 (w'.heap[gb334]? = some (.cells #[.string x335000_1, .string x335001_1, .int .i64 x335002_1] 31 (0, 0))) ∧ Aside0 (IsS79 w0 w' g s0_0 x1001_1 x1002_1) ∧ Aside0 (KeepBut w w' g none) ∧ Aside0 (Below w0.heap.size w0 w'))
 case atStart => exact ⟨(t335), (t336), (t337), ((⟨#[]⟩ : ByteArray)), ((⟨#[]⟩ : ByteArray)), (0), (by first | rfl | (simp [*]; done)), H', ⟨Nat.le_refl _⟩, ⟨by (with_reducible repeat (first | apply kn_ | apply kd_ | apply ka_)); exact BK333.out⟩, ⟨by (with_reducible repeat (first | apply kn_ | apply kd_ | apply ka_)); exact BK334.out⟩, ⟨by repeat (with_reducible first | exact HI0.out | apply IsS79.alloc | apply IsS79.drewN | apply IsS79.drew | apply IsS79.set_1 | apply IsS79.set_2 | refine IsS79.far ?_ NB0_333.out _ | refine IsS79.far ?_ NB0_334.out _)⟩, ⟨by repeat (with_reducible first | exact HK.out | apply KeepBut.set_ | apply keep_drewN | apply keep_drew | apply keep_alloc | refine keep_far ?_ GW333.out _ | refine keep_far ?_ GW334.out _)⟩, ⟨by repeat (with_reducible first | exact HB.out | apply ba_ | apply bn_ | apply bd_ | refine bs_ ?_ (IsS79.ge HI0.out) | refine bs_ ?_ GE333.out | refine bs_ ?_ GE334.out)⟩⟩
 case round =>
  clear H'
  try clear p2
  try clear c5
  try clear c6
  try clear hcz7_0
  try clear hcz7_1
  try clear hcz7_2
  try clear hfz7_0
  try clear hfz7_1
  try clear hfz7_2
  obtain ⟨x4_1, x1001_1, x1002_1, x335000_1, x335001_1, x335002_1, rfl, HA, HK1, BK333, BK334, HI0, HK, HB⟩ := hrel
  cases gk with
  | zero => exact absurd HA.out (by simp [spec_l1Cur_log12.l0])
  | succ k1 =>
   have H := HA.out
   clear HA
   simp only [spec_l1Cur_log12.l0] at H
   by_cases c9 : x4_1 > 0
   ·rw [if_pos c9] at H
    have c9b0 : decide (0 < x4_1) = true := dt_ c9
    clear c9
    replace H := ob_.mp H
    obtain ⟨⟨t338, t339, t340, t341⟩, A100, H⟩ := H
    have A10 := A0_ A100
    clear A100
    replace H := ob_.mp H
    obtain ⟨⟨t342, t343, t344, t345⟩, A110, H⟩ := H
    have A11 := A0_ A110
    clear A110
    replace H := ob_.mp H
    obtain ⟨⟨t346, t347, t348⟩, A120, H⟩ := H
    have A12 := A0_ A120
    clear A120
    by_cases c13 : t346 = true
    ·subst c13
     rw [if_pos rfl] at H
     replace H := ob_.mp H
     obtain ⟨⟨t349, t350, t351, t352⟩, A140, H⟩ := H
     have A14 := A0_ A140
     clear A140
     have H' := A0_ H
     clear H
     try go_wp2
     replace BK333 := A0_ (kd_ BK333.out)
     replace BK334 := A0_ (kd_ BK334.out)
     replace HI0 := A0_ (IsS79.drew HI0.out)
     replace HK := A0_ (keep_drew HK.out)
     replace HB := A0_ (bd_ HB.out)
     refine start_ (n := 8) (S := fun w' => w'.cell? ⟨gb334, 0, none⟩ = some (.string x335000_1) ∧ w'.cell? ⟨gb334, 1, none⟩ = some (.string x335001_1) ∧ w'.cell? ⟨gb334, 2, none⟩ = some (.int .i64 x335002_1)) (ds := [7]) #[false, false, false, false, false, false, false, false] (by kernel_rfl) rfl rfl ⟨(kc_ BK334.out 0).trans rfl, (kc_ BK334.out 1).trans rfl, (kc_ BK334.out 2).trans rfl⟩ (fun hHeld => ?_); refine with_tabW spec_l1Cur_log12.tab5 spec_l1Cur_log12.bits5 (fun HT_ HW_ => ?_)
     generalize wr.drew = w15 at BK333 BK334 HI0 HK HB hHeld ⊢
     refine pure_ (i := 1) (N := some 14) (v := ?_) (a' := ?_) #[false, true, false, false, false, false, false, false] rfl rfl (any_of HT_.out (by kernel_rfl)) (fun _ _ _ h => h) (Or.inl ⟨by rfl, ?_⟩) ?_ ?_
     rotate_left
     ·intro w'
      go_simp
      with_reducible rfl
     rotate_left
     ·simp only [Act.put, sa_, sz_, ss_, i64_w, i32_w]
      rfl
     refine take_ (i := 0) (N := some 13) (v := ?_) (a' := ?_) #[true, true, false, false, false, false, false, false] rfl rfl (take_ofW HT_.out HW_.out (by kernel_rfl)) (fun _ _ _ h => h) (Or.inl ⟨by rfl, ?_⟩) hHeld ?_ ?_
     rotate_left
     ·rintro w' ⟨s0, s1, s2⟩
      go_simp
      with_reducible rfl
     rotate_left
     ·simp only [Act.put, sa_, sz_, ss_, i64_w, i32_w]
      rfl
     refine one_ (i := 2) (N := some 15) #[true, true, true, false, false, false, false, false] rfl rfl (one_of HT_.out (by kernel_rfl)) (by decide) (fun K hK => ?_)
     refine goes_ Tryd.func57 (by kernel_rfl) rfl #[.pointer (some ⟨g, 0, none⟩)] (by rfl) rfl rfl (by (try simp only [ma_, mc_, mn_]); first | done | rfl | (simp only [ld_, lt_]; rfl)) ?_
     with_reducible refine (spec_l1Cur_logRecord.calls g s0_0 x1001_1 x1002_1 t338 t339 t340 t341 w0 _ ?side1 ?side2 A10.out).mono ?_
     (case side1 => repeat (with_reducible first | exact HI0.out | apply IsS79.alloc | apply IsS79.drewN | apply IsS79.drew | apply IsS79.set_1 | apply IsS79.set_2 | refine IsS79.far ?_ NB0_333.out _ | refine IsS79.far ?_ NB0_334.out _))
     (case side2 => repeat (with_reducible first | exact HB.out | apply ba_ | apply bn_ | apply bd_ | refine bs_ ?_ (IsS79.ge HI0.out) | refine bs_ ?_ GE333.out | refine bs_ ?_ GE334.out))
     rintro e w16 ⟨rfl, hi, hb, hk⟩
     refine ⟨_, rfl, ?_⟩
     replace BK333 := A0_ (KeepBut.blk hk (g' := gb333) (o := .cells #[.string (⟨#[]⟩ : ByteArray), .string (⟨#[]⟩ : ByteArray), .int .i64 0] 31 (0, 0)) (by (with_reducible repeat (first | apply kn_ | apply kd_ | apply ka_)); exact BK333.out) NB333_0.out (by simp))
     replace BK334 := A0_ (KeepBut.blk hk (g' := gb334) (o := .cells #[.string x335000_1, .string x335001_1, .int .i64 x335002_1] 31 (0, 0)) (by (with_reducible repeat (first | apply kn_ | apply kd_ | apply ka_)); exact BK334.out) NB334_0.out (by simp))
     replace HK := A0_ (KeepBut.trans (by repeat (with_reducible first | exact HK.out | apply KeepBut.set_ | apply keep_drewN | apply keep_drew | apply keep_alloc | refine keep_far ?_ GW333.out _ | refine keep_far ?_ GW334.out _)) hk (.inl rfl))
     replace HB := A0_ (hb)
     replace HI0 := A0_ (hi)
     (try clear hb)
     (try clear hb2)
     (try clear hk)
     (try clear hi)
     refine hK.out _ _ ⟨(kc_ BK334.out 0).trans rfl, (kc_ BK334.out 1).trans rfl, (kc_ BK334.out 2).trans rfl⟩ (fun hHeld => ?_)
     clear hK K
     refine norm_ (a' := ?_) ?_ ?_
     rotate_left
     ·show Act.put _ (some 15) _ = _
      simp only [Act.put, sa_, sz_, ss_, i64_w, i32_w]
      rfl
     refine one_ (i := 3) (N := some 16) #[true, true, true, true, false, false, false, false] rfl rfl (one_of HT_.out (by kernel_rfl)) (by decide) (fun K hK => ?_)
     refine goes_ Tryd.func27 (by kernel_rfl) rfl #[.agg #[.string x335000_1, .string x335001_1, .int .i64 x335002_1], .agg #[.string t338, .string t339]] (by rfl) rfl rfl (by (try simp only [ma_, mc_, mn_]); first | done | rfl | (simp only [ld_, lt_]; rfl)) ?_
     with_reducible refine (spec_AppendRecord.calls k1 x335000_1 x335001_1 x335002_1 t338 t339 t342 t343 t344 t345 _ A11.out).mono ?_
     rintro e w17 ⟨rfl, hb⟩
     refine ⟨_, rfl, ?_⟩
     replace BK333 := A0_ (kb_ (g := gb333) (o := .cells #[.string (⟨#[]⟩ : ByteArray), .string (⟨#[]⟩ : ByteArray), .int .i64 0] 31 (0, 0)) (by (with_reducible repeat (first | apply kn_ | apply kd_ | apply ka_)); exact BK333.out) hb)
     replace BK334 := A0_ (kb_ (g := gb334) (o := .cells #[.string x335000_1, .string x335001_1, .int .i64 x335002_1] 31 (0, 0)) (by (with_reducible repeat (first | apply kn_ | apply kd_ | apply ka_)); exact BK334.out) hb)
     replace HK := A0_ (KeepBut.trans (by repeat (with_reducible first | exact HK.out | apply KeepBut.set_ | apply keep_drewN | apply keep_drew | apply keep_alloc | refine keep_far ?_ GW333.out _ | refine keep_far ?_ GW334.out _)) (KeepBut.of_below hb g none) (.inl rfl))
     replace HB := A0_ (bt_ (by repeat (with_reducible first | exact HB.out | apply ba_ | apply bn_ | apply bd_ | refine bs_ ?_ (IsS79.ge HI0.out) | refine bs_ ?_ GE333.out | refine bs_ ?_ GE334.out)) hb)
     replace HI0 := A0_ (IsS79.below (by repeat (with_reducible first | exact HI0.out | apply IsS79.alloc | apply IsS79.drewN | apply IsS79.drew | apply IsS79.set_1 | apply IsS79.set_2 | refine IsS79.far ?_ NB0_333.out _ | refine IsS79.far ?_ NB0_334.out _)) hb)
     (try clear hb)
     (try clear hb2)
     (try clear hk)
     (try clear hi)
     refine hK.out _ _ ⟨(kc_ BK334.out 0).trans rfl, (kc_ BK334.out 1).trans rfl, (kc_ BK334.out 2).trans rfl⟩ (fun hHeld => ?_)
     clear hK K
     refine norm_ (a' := ?_) ?_ ?_
     rotate_left
     ·show Act.put _ (some 16) _ = _
      simp only [Act.put, sa_, sz_, ss_, i64_w, i32_w]
      rfl
     refine pure_ (i := 4) (N := some 12) (v := ?_) (a' := ?_) #[true, true, true, true, true, false, false, false] rfl rfl (any_of HT_.out (by kernel_rfl)) (fun _ _ _ h => h) (Or.inl ⟨by rfl, ?_⟩) ?_ ?_
     rotate_left
     ·intro w'
      go_simp
      with_reducible rfl
     rotate_left
     ·simp only [Act.put, sa_, sz_, ss_, i64_w, i32_w]
      rfl
     refine pure_ (i := 5) (N := some 17) (v := ?_) (a' := ?_) #[true, true, true, true, true, true, false, false] rfl rfl (any_of HT_.out (by kernel_rfl)) (fun _ _ _ h => h) (Or.inl ⟨by rfl, ?_⟩) ?_ ?_
     rotate_left
     ·intro w'
      go_simp
      with_reducible rfl
     rotate_left
     ·simp only [Act.put, sa_, sz_, ss_, i64_w, i32_w]
      rfl
     refine pure_ (i := 6) (N := some 18) (v := ?_) (a' := ?_) #[true, true, true, true, true, true, true, false] rfl rfl (any_of HT_.out (by kernel_rfl)) (fun _ _ _ h => h) (Or.inl ⟨by rfl, ?_⟩) ?_ ?_
     rotate_left
     ·intro w'
      go_simp
      with_reducible rfl
     rotate_left
     ·simp only [Act.put, sa_, sz_, ss_, i64_w, i32_w]
      rfl
     refine last_ (i := 7) (N := none) #[true, true, true, true, true, true, true, true] rfl rfl (one_of HT_.out (by kernel_rfl)) (by decide) (fun K hK => ?_)
     have hs18 : w17.cell? ⟨gb334, 0, none⟩ = some (.string x335000_1) := (kc_ BK334.out 0).trans rfl
     have hfs18 := kf_ BK334.out 0
     have hns18_0 := NB333_334.out
     have hms18_0 := NB334_333.out
     have hs19 : w17.cell? ⟨gb334, 1, none⟩ = some (.string x335001_1) := (kc_ BK334.out 1).trans rfl
     have hfs19 := kf_ BK334.out 1
     have hns19_0 := NB333_334.out
     have hms19_0 := NB334_333.out
     have hs20 : w17.cell? ⟨gb334, 2, none⟩ = some (.int .i64 x335002_1) := (kc_ BK334.out 2).trans rfl
     have hfs20 := kf_ BK334.out 2
     have hns20_0 := NB333_334.out
     have hms20_0 := NB334_333.out
     refine skip_ (w1 := ?_) (by rfl) rfl ?_ ?_
     rotate_left
     ·go_simp
      rfl
     refine hK.out _ _ ?_
     clear hK K
     refine done_ (done_of HT_.out (by kernel_rfl)) ?_
     try go_wp2_with (first | ((with_reducible refine gc_ (f := 60) rfl ?_); refine goesL_ (some 20) rfl rfl Tryd.func60 (by kernel_rfl) rfl #[.pointer (some ⟨g, 0, none⟩), .int .i64 4] rfl (by (try simp only [ma_, mc_, mn_]); first | done | rfl | (simp only [ld_, lt_]; rfl)) ?_; (with_reducible refine (spec_l1Cur_one.calls g s0_0 t340 t341 4 true t347 t348 w0 _ ?side1 ?side2 A12.out).mono ?_); (case side1 => repeat (with_reducible first | exact HI0.out | apply IsS79.alloc | apply IsS79.drewN | apply IsS79.drew | apply IsS79.set_1 | apply IsS79.set_2 | refine IsS79.far ?_ NB0_333.out _ | refine IsS79.far ?_ NB0_334.out _)); (case side2 => repeat (with_reducible first | exact HB.out | apply ba_ | apply bn_ | apply bd_ | refine bs_ ?_ (IsS79.ge HI0.out) | refine bs_ ?_ GE333.out | refine bs_ ?_ GE334.out)); rintro e w21 ⟨rfl, hi, hb, hk⟩; refine ⟨_, rfl, ?_⟩; replace BK333 := A0_ (KeepBut.blk hk (g' := gb333) (o := .cells #[.string (⟨#[]⟩ : ByteArray), .string (⟨#[]⟩ : ByteArray), .int .i64 0] 31 (0, 0)) (by (with_reducible repeat (first | apply kn_ | apply kd_ | apply ka_)); refine blk_far ?_ NB333_334.out _; (with_reducible repeat (first | apply kn_ | apply kd_ | apply ka_)); refine blk_far ?_ NB333_334.out _; (with_reducible repeat (first | apply kn_ | apply kd_ | apply ka_)); refine blk_far ?_ NB333_334.out _; (with_reducible repeat (first | apply kn_ | apply kd_ | apply ka_)); exact BK333.out) NB333_0.out (by simp)); replace BK334 := A0_ (KeepBut.blk hk (g' := gb334) (o := .cells #[.string t342, .string t343, .int .i64 t344] 31 (0, 0)) (by (with_reducible repeat (first | apply kn_ | apply kd_ | apply ka_)); refine blk_put (cs := #[.string t342, .string t343, .int .i64 x335002_1]) ?_ 2 _ rfl; (with_reducible repeat (first | apply kn_ | apply kd_ | apply ka_)); refine blk_put (cs := #[.string t342, .string x335001_1, .int .i64 x335002_1]) ?_ 1 _ rfl; (with_reducible repeat (first | apply kn_ | apply kd_ | apply ka_)); refine blk_put (cs := #[.string x335000_1, .string x335001_1, .int .i64 x335002_1]) ?_ 0 _ rfl; (with_reducible repeat (first | apply kn_ | apply kd_ | apply ka_)); exact BK334.out) NB334_0.out (by simp)); replace HK := A0_ (KeepBut.trans (by repeat (with_reducible first | exact HK.out | apply KeepBut.set_ | apply keep_drewN | apply keep_drew | apply keep_alloc | refine keep_far ?_ GW333.out _ | refine keep_far ?_ GW334.out _)) hk (.inl rfl)); replace HB := A0_ (hb); replace HI0 := A0_ (hi); (try clear hb); (try clear hk); (try clear hi); have hnb22 := NB334_333.out; have hnc22 := NB333_334.out; have hnb23 := NB334_0.out; have hnc23 := NB0_334.out; have hcz24_0 : w21.cell? ⟨gb334, 0, none⟩ = some (.string t342) := (kc_ BK334.out 0).trans rfl; have hcz24_1 : w21.cell? ⟨gb334, 1, none⟩ = some (.string t343) := (kc_ BK334.out 1).trans rfl; have hcz24_2 : w21.cell? ⟨gb334, 2, none⟩ = some (.int .i64 t344) := (kc_ BK334.out 2).trans rfl; have hfz24_0 := kf_ BK334.out 0; have hfz24_1 := kf_ BK334.out 1; have hfz24_2 := kf_ BK334.out 2) | ((with_reducible refine gc_ (f := 25) rfl ?_); refine goesL_ (some 23) rfl rfl Tryd.func25 (by kernel_rfl) rfl #[.agg #[.string t342, .string t343, .int .i64 t344]] rfl (by (try simp only [ma_, mc_, mn_]); first | done | rfl | (simp only [ld_, lt_]; rfl)) ?_; (with_reducible refine (spec_SyncLog.calls k1 t342 t343 t344 t349 t350 t351 t352 _ A14.out).mono ?_); rintro e w25 ⟨rfl, hb⟩; refine ⟨_, rfl, ?_⟩; replace BK333 := A0_ (kb_ (g := gb333) (o := .cells #[.string (⟨#[]⟩ : ByteArray), .string (⟨#[]⟩ : ByteArray), .int .i64 0] 31 (0, 0)) (by (with_reducible repeat (first | apply kn_ | apply kd_ | apply ka_)); exact BK333.out) hb); replace BK334 := A0_ (kb_ (g := gb334) (o := .cells #[.string t342, .string t343, .int .i64 t344] 31 (0, 0)) (by (with_reducible repeat (first | apply kn_ | apply kd_ | apply ka_)); exact BK334.out) hb); replace HK := A0_ (KeepBut.trans (by repeat (with_reducible first | exact HK.out | apply KeepBut.set_ | apply keep_drewN | apply keep_drew | apply keep_alloc | refine keep_far ?_ GW333.out _ | refine keep_far ?_ GW334.out _)) (KeepBut.of_below hb g none) (.inl rfl)); replace HB := A0_ (bt_ (by repeat (with_reducible first | exact HB.out | apply ba_ | apply bn_ | apply bd_ | refine bs_ ?_ (IsS79.ge HI0.out) | refine bs_ ?_ GE333.out | refine bs_ ?_ GE334.out)) hb); replace HI0 := A0_ (IsS79.below (by repeat (with_reducible first | exact HI0.out | apply IsS79.alloc | apply IsS79.drewN | apply IsS79.drew | apply IsS79.set_1 | apply IsS79.set_2 | refine IsS79.far ?_ NB0_333.out _ | refine IsS79.far ?_ NB0_334.out _)) hb); (try clear hb); have hcz26_0 : w25.cell? ⟨gb334, 0, none⟩ = some (.string t342) := (kc_ BK334.out 0).trans rfl; have hcz26_1 : w25.cell? ⟨gb334, 1, none⟩ = some (.string t343) := (kc_ BK334.out 1).trans rfl; have hcz26_2 : w25.cell? ⟨gb334, 2, none⟩ = some (.int .i64 t344) := (kc_ BK334.out 2).trans rfl; have hfz26_0 := kf_ BK334.out 0; have hfz26_1 := kf_ BK334.out 1; have hfz26_2 := kf_ BK334.out 2))
     go_roundg k1
     case measure => have := HK1.out; omega
     case rel => exact ⟨(wrap64 (x4_1 - 1)), (t347), (t348), (t349), (t350), (t351), (by first | rfl | (simp [*]; done)), H', ⟨by have := HK1.out; omega⟩, ⟨by (with_reducible repeat (first | apply kn_ | apply kd_ | apply ka_)); refine blk_far ?_ NB333_334.out _; (with_reducible repeat (first | apply kn_ | apply kd_ | apply ka_)); refine blk_far ?_ NB333_334.out _; (with_reducible repeat (first | apply kn_ | apply kd_ | apply ka_)); refine blk_far ?_ NB333_334.out _; (with_reducible repeat (first | apply kn_ | apply kd_ | apply ka_)); exact BK333.out⟩, ⟨by (with_reducible repeat (first | apply kn_ | apply kd_ | apply ka_)); refine blk_put (cs := #[.string t349, .string t350, .int .i64 t344]) ?_ 2 _ rfl; (with_reducible repeat (first | apply kn_ | apply kd_ | apply ka_)); refine blk_put (cs := #[.string t349, .string t343, .int .i64 t344]) ?_ 1 _ rfl; (with_reducible repeat (first | apply kn_ | apply kd_ | apply ka_)); refine blk_put (cs := #[.string t342, .string t343, .int .i64 t344]) ?_ 0 _ rfl; (with_reducible repeat (first | apply kn_ | apply kd_ | apply ka_)); exact BK334.out⟩, ⟨by repeat (with_reducible first | exact HI0.out | apply IsS79.alloc | apply IsS79.drewN | apply IsS79.drew | apply IsS79.set_1 | apply IsS79.set_2 | refine IsS79.far ?_ NB0_333.out _ | refine IsS79.far ?_ NB0_334.out _)⟩, ⟨by repeat (with_reducible first | exact HK.out | apply KeepBut.set_ | apply keep_drewN | apply keep_drew | apply keep_alloc | refine keep_far ?_ GW333.out _ | refine keep_far ?_ GW334.out _)⟩, ⟨by repeat (with_reducible first | exact HB.out | apply ba_ | apply bn_ | apply bd_ | refine bs_ ?_ (IsS79.ge HI0.out) | refine bs_ ?_ GE333.out | refine bs_ ?_ GE334.out)⟩⟩
    ·replace c13 := bf_.mpr c13
     subst c13
     rw [if_neg (show ¬ (false = true) by decide)] at H
     have H' := A0_ H
     clear H
     try go_wp2
     replace BK333 := A0_ (kd_ BK333.out)
     replace BK334 := A0_ (kd_ BK334.out)
     replace HI0 := A0_ (IsS79.drew HI0.out)
     replace HK := A0_ (keep_drew HK.out)
     replace HB := A0_ (bd_ HB.out)
     refine start_ (n := 8) (S := fun w' => w'.cell? ⟨gb334, 0, none⟩ = some (.string x335000_1) ∧ w'.cell? ⟨gb334, 1, none⟩ = some (.string x335001_1) ∧ w'.cell? ⟨gb334, 2, none⟩ = some (.int .i64 x335002_1)) (ds := [7]) #[false, false, false, false, false, false, false, false] (by kernel_rfl) rfl rfl ⟨(kc_ BK334.out 0).trans rfl, (kc_ BK334.out 1).trans rfl, (kc_ BK334.out 2).trans rfl⟩ (fun hHeld => ?_); refine with_tabW spec_l1Cur_log12.tab5 spec_l1Cur_log12.bits5 (fun HT_ HW_ => ?_)
     generalize wr.drew = w27 at BK333 BK334 HI0 HK HB hHeld ⊢
     refine pure_ (i := 1) (N := some 14) (v := ?_) (a' := ?_) #[false, true, false, false, false, false, false, false] rfl rfl (any_of HT_.out (by kernel_rfl)) (fun _ _ _ h => h) (Or.inl ⟨by rfl, ?_⟩) ?_ ?_
     rotate_left
     ·intro w'
      go_simp
      with_reducible rfl
     rotate_left
     ·simp only [Act.put, sa_, sz_, ss_, i64_w, i32_w]
      rfl
     refine take_ (i := 0) (N := some 13) (v := ?_) (a' := ?_) #[true, true, false, false, false, false, false, false] rfl rfl (take_ofW HT_.out HW_.out (by kernel_rfl)) (fun _ _ _ h => h) (Or.inl ⟨by rfl, ?_⟩) hHeld ?_ ?_
     rotate_left
     ·rintro w' ⟨s0, s1, s2⟩
      go_simp
      with_reducible rfl
     rotate_left
     ·simp only [Act.put, sa_, sz_, ss_, i64_w, i32_w]
      rfl
     refine one_ (i := 2) (N := some 15) #[true, true, true, false, false, false, false, false] rfl rfl (one_of HT_.out (by kernel_rfl)) (by decide) (fun K hK => ?_)
     refine goes_ Tryd.func57 (by kernel_rfl) rfl #[.pointer (some ⟨g, 0, none⟩)] (by rfl) rfl rfl (by (try simp only [ma_, mc_, mn_]); first | done | rfl | (simp only [ld_, lt_]; rfl)) ?_
     with_reducible refine (spec_l1Cur_logRecord.calls g s0_0 x1001_1 x1002_1 t338 t339 t340 t341 w0 _ ?side1 ?side2 A10.out).mono ?_
     (case side1 => repeat (with_reducible first | exact HI0.out | apply IsS79.alloc | apply IsS79.drewN | apply IsS79.drew | apply IsS79.set_1 | apply IsS79.set_2 | refine IsS79.far ?_ NB0_333.out _ | refine IsS79.far ?_ NB0_334.out _))
     (case side2 => repeat (with_reducible first | exact HB.out | apply ba_ | apply bn_ | apply bd_ | refine bs_ ?_ (IsS79.ge HI0.out) | refine bs_ ?_ GE333.out | refine bs_ ?_ GE334.out))
     rintro e w28 ⟨rfl, hi, hb, hk⟩
     refine ⟨_, rfl, ?_⟩
     replace BK333 := A0_ (KeepBut.blk hk (g' := gb333) (o := .cells #[.string (⟨#[]⟩ : ByteArray), .string (⟨#[]⟩ : ByteArray), .int .i64 0] 31 (0, 0)) (by (with_reducible repeat (first | apply kn_ | apply kd_ | apply ka_)); exact BK333.out) NB333_0.out (by simp))
     replace BK334 := A0_ (KeepBut.blk hk (g' := gb334) (o := .cells #[.string x335000_1, .string x335001_1, .int .i64 x335002_1] 31 (0, 0)) (by (with_reducible repeat (first | apply kn_ | apply kd_ | apply ka_)); exact BK334.out) NB334_0.out (by simp))
     replace HK := A0_ (KeepBut.trans (by repeat (with_reducible first | exact HK.out | apply KeepBut.set_ | apply keep_drewN | apply keep_drew | apply keep_alloc | refine keep_far ?_ GW333.out _ | refine keep_far ?_ GW334.out _)) hk (.inl rfl))
     replace HB := A0_ (hb)
     replace HI0 := A0_ (hi)
     (try clear hb)
     (try clear hb2)
     (try clear hk)
     (try clear hi)
     refine hK.out _ _ ⟨(kc_ BK334.out 0).trans rfl, (kc_ BK334.out 1).trans rfl, (kc_ BK334.out 2).trans rfl⟩ (fun hHeld => ?_)
     clear hK K
     refine norm_ (a' := ?_) ?_ ?_
     rotate_left
     ·show Act.put _ (some 15) _ = _
      simp only [Act.put, sa_, sz_, ss_, i64_w, i32_w]
      rfl
     refine one_ (i := 3) (N := some 16) #[true, true, true, true, false, false, false, false] rfl rfl (one_of HT_.out (by kernel_rfl)) (by decide) (fun K hK => ?_)
     refine goes_ Tryd.func27 (by kernel_rfl) rfl #[.agg #[.string x335000_1, .string x335001_1, .int .i64 x335002_1], .agg #[.string t338, .string t339]] (by rfl) rfl rfl (by (try simp only [ma_, mc_, mn_]); first | done | rfl | (simp only [ld_, lt_]; rfl)) ?_
     with_reducible refine (spec_AppendRecord.calls k1 x335000_1 x335001_1 x335002_1 t338 t339 t342 t343 t344 t345 _ A11.out).mono ?_
     rintro e w29 ⟨rfl, hb⟩
     refine ⟨_, rfl, ?_⟩
     replace BK333 := A0_ (kb_ (g := gb333) (o := .cells #[.string (⟨#[]⟩ : ByteArray), .string (⟨#[]⟩ : ByteArray), .int .i64 0] 31 (0, 0)) (by (with_reducible repeat (first | apply kn_ | apply kd_ | apply ka_)); exact BK333.out) hb)
     replace BK334 := A0_ (kb_ (g := gb334) (o := .cells #[.string x335000_1, .string x335001_1, .int .i64 x335002_1] 31 (0, 0)) (by (with_reducible repeat (first | apply kn_ | apply kd_ | apply ka_)); exact BK334.out) hb)
     replace HK := A0_ (KeepBut.trans (by repeat (with_reducible first | exact HK.out | apply KeepBut.set_ | apply keep_drewN | apply keep_drew | apply keep_alloc | refine keep_far ?_ GW333.out _ | refine keep_far ?_ GW334.out _)) (KeepBut.of_below hb g none) (.inl rfl))
     replace HB := A0_ (bt_ (by repeat (with_reducible first | exact HB.out | apply ba_ | apply bn_ | apply bd_ | refine bs_ ?_ (IsS79.ge HI0.out) | refine bs_ ?_ GE333.out | refine bs_ ?_ GE334.out)) hb)
     replace HI0 := A0_ (IsS79.below (by repeat (with_reducible first | exact HI0.out | apply IsS79.alloc | apply IsS79.drewN | apply IsS79.drew | apply IsS79.set_1 | apply IsS79.set_2 | refine IsS79.far ?_ NB0_333.out _ | refine IsS79.far ?_ NB0_334.out _)) hb)
     (try clear hb)
     (try clear hb2)
     (try clear hk)
     (try clear hi)
     refine hK.out _ _ ⟨(kc_ BK334.out 0).trans rfl, (kc_ BK334.out 1).trans rfl, (kc_ BK334.out 2).trans rfl⟩ (fun hHeld => ?_)
     clear hK K
     refine norm_ (a' := ?_) ?_ ?_
     rotate_left
     ·show Act.put _ (some 16) _ = _
      simp only [Act.put, sa_, sz_, ss_, i64_w, i32_w]
      rfl
     refine pure_ (i := 4) (N := some 12) (v := ?_) (a' := ?_) #[true, true, true, true, true, false, false, false] rfl rfl (any_of HT_.out (by kernel_rfl)) (fun _ _ _ h => h) (Or.inl ⟨by rfl, ?_⟩) ?_ ?_
     rotate_left
     ·intro w'
      go_simp
      with_reducible rfl
     rotate_left
     ·simp only [Act.put, sa_, sz_, ss_, i64_w, i32_w]
      rfl
     refine pure_ (i := 5) (N := some 17) (v := ?_) (a' := ?_) #[true, true, true, true, true, true, false, false] rfl rfl (any_of HT_.out (by kernel_rfl)) (fun _ _ _ h => h) (Or.inl ⟨by rfl, ?_⟩) ?_ ?_
     rotate_left
     ·intro w'
      go_simp
      with_reducible rfl
     rotate_left
     ·simp only [Act.put, sa_, sz_, ss_, i64_w, i32_w]
      rfl
     refine pure_ (i := 6) (N := some 18) (v := ?_) (a' := ?_) #[true, true, true, true, true, true, true, false] rfl rfl (any_of HT_.out (by kernel_rfl)) (fun _ _ _ h => h) (Or.inl ⟨by rfl, ?_⟩) ?_ ?_
     rotate_left
     ·intro w'
      go_simp
      with_reducible rfl
     rotate_left
     ·simp only [Act.put, sa_, sz_, ss_, i64_w, i32_w]
      rfl
     refine last_ (i := 7) (N := none) #[true, true, true, true, true, true, true, true] rfl rfl (one_of HT_.out (by kernel_rfl)) (by decide) (fun K hK => ?_)
     have hs30 : w29.cell? ⟨gb334, 0, none⟩ = some (.string x335000_1) := (kc_ BK334.out 0).trans rfl
     have hfs30 := kf_ BK334.out 0
     have hns30_0 := NB333_334.out
     have hms30_0 := NB334_333.out
     have hs31 : w29.cell? ⟨gb334, 1, none⟩ = some (.string x335001_1) := (kc_ BK334.out 1).trans rfl
     have hfs31 := kf_ BK334.out 1
     have hns31_0 := NB333_334.out
     have hms31_0 := NB334_333.out
     have hs32 : w29.cell? ⟨gb334, 2, none⟩ = some (.int .i64 x335002_1) := (kc_ BK334.out 2).trans rfl
     have hfs32 := kf_ BK334.out 2
     have hns32_0 := NB333_334.out
     have hms32_0 := NB334_333.out
     refine skip_ (w1 := ?_) (by rfl) rfl ?_ ?_
     rotate_left
     ·go_simp
      rfl
     refine hK.out _ _ ?_
     clear hK K
     refine done_ (done_of HT_.out (by kernel_rfl)) ?_
     try go_wp2_with (first | ((with_reducible refine gc_ (f := 60) rfl ?_); refine goesL_ (some 20) rfl rfl Tryd.func60 (by kernel_rfl) rfl #[.pointer (some ⟨g, 0, none⟩), .int .i64 4] rfl (by (try simp only [ma_, mc_, mn_]); first | done | rfl | (simp only [ld_, lt_]; rfl)) ?_; (with_reducible refine (spec_l1Cur_one.calls g s0_0 t340 t341 4 false t347 t348 w0 _ ?side1 ?side2 A12.out).mono ?_); (case side1 => repeat (with_reducible first | exact HI0.out | apply IsS79.alloc | apply IsS79.drewN | apply IsS79.drew | apply IsS79.set_1 | apply IsS79.set_2 | refine IsS79.far ?_ NB0_333.out _ | refine IsS79.far ?_ NB0_334.out _)); (case side2 => repeat (with_reducible first | exact HB.out | apply ba_ | apply bn_ | apply bd_ | refine bs_ ?_ (IsS79.ge HI0.out) | refine bs_ ?_ GE333.out | refine bs_ ?_ GE334.out)); rintro e w33 ⟨rfl, hi, hb, hk⟩; refine ⟨_, rfl, ?_⟩; replace BK333 := A0_ (KeepBut.blk hk (g' := gb333) (o := .cells #[.string (⟨#[]⟩ : ByteArray), .string (⟨#[]⟩ : ByteArray), .int .i64 0] 31 (0, 0)) (by (with_reducible repeat (first | apply kn_ | apply kd_ | apply ka_)); refine blk_far ?_ NB333_334.out _; (with_reducible repeat (first | apply kn_ | apply kd_ | apply ka_)); refine blk_far ?_ NB333_334.out _; (with_reducible repeat (first | apply kn_ | apply kd_ | apply ka_)); refine blk_far ?_ NB333_334.out _; (with_reducible repeat (first | apply kn_ | apply kd_ | apply ka_)); exact BK333.out) NB333_0.out (by simp)); replace BK334 := A0_ (KeepBut.blk hk (g' := gb334) (o := .cells #[.string t342, .string t343, .int .i64 t344] 31 (0, 0)) (by (with_reducible repeat (first | apply kn_ | apply kd_ | apply ka_)); refine blk_put (cs := #[.string t342, .string t343, .int .i64 x335002_1]) ?_ 2 _ rfl; (with_reducible repeat (first | apply kn_ | apply kd_ | apply ka_)); refine blk_put (cs := #[.string t342, .string x335001_1, .int .i64 x335002_1]) ?_ 1 _ rfl; (with_reducible repeat (first | apply kn_ | apply kd_ | apply ka_)); refine blk_put (cs := #[.string x335000_1, .string x335001_1, .int .i64 x335002_1]) ?_ 0 _ rfl; (with_reducible repeat (first | apply kn_ | apply kd_ | apply ka_)); exact BK334.out) NB334_0.out (by simp)); replace HK := A0_ (KeepBut.trans (by repeat (with_reducible first | exact HK.out | apply KeepBut.set_ | apply keep_drewN | apply keep_drew | apply keep_alloc | refine keep_far ?_ GW333.out _ | refine keep_far ?_ GW334.out _)) hk (.inl rfl)); replace HB := A0_ (hb); replace HI0 := A0_ (hi); (try clear hb); (try clear hk); (try clear hi)))
     go_roundg k1
     case measure => have := HK1.out; omega
     case rel => exact ⟨(wrap64 (x4_1 - 1)), (t347), (t348), (t342), (t343), (t344), (by first | rfl | (simp [*]; done)), H', ⟨by have := HK1.out; omega⟩, ⟨by (with_reducible repeat (first | apply kn_ | apply kd_ | apply ka_)); exact BK333.out⟩, ⟨by (with_reducible repeat (first | apply kn_ | apply kd_ | apply ka_)); exact BK334.out⟩, ⟨by repeat (with_reducible first | exact HI0.out | apply IsS79.alloc | apply IsS79.drewN | apply IsS79.drew | apply IsS79.set_1 | apply IsS79.set_2 | refine IsS79.far ?_ NB0_333.out _ | refine IsS79.far ?_ NB0_334.out _)⟩, ⟨by repeat (with_reducible first | exact HK.out | apply KeepBut.set_ | apply keep_drewN | apply keep_drew | apply keep_alloc | refine keep_far ?_ GW333.out _ | refine keep_far ?_ GW334.out _)⟩, ⟨by repeat (with_reducible first | exact HB.out | apply ba_ | apply bn_ | apply bd_ | refine bs_ ?_ (IsS79.ge HI0.out) | refine bs_ ?_ GE333.out | refine bs_ ?_ GE334.out)⟩⟩
   ·rw [if_neg c9] at H
    have c9b0 : decide (0 < x4_1) = false := decide_eq_false c9
    clear c9
    simp only [sj_, pj_] at H
    obtain ⟨rfl, rfl, rfl, rfl, rfl⟩ := H
    have hnb34 := NB334_333.out
    have hnc34 := NB333_334.out
    have hnb35 := NB334_0.out
    have hnc35 := NB0_334.out
    have hcz36_0 : wr.cell? ⟨gb334, 0, none⟩ = some (.string x335000_1) := (kc_ BK334.out 0).trans rfl
    have hcz36_1 : wr.cell? ⟨gb334, 1, none⟩ = some (.string x335001_1) := (kc_ BK334.out 1).trans rfl
    have hcz36_2 : wr.cell? ⟨gb334, 2, none⟩ = some (.int .i64 x335002_1) := (kc_ BK334.out 2).trans rfl
    have hfz36_0 := kf_ BK334.out 0
    have hfz36_1 := kf_ BK334.out 1
    have hfz36_2 := kf_ BK334.out 2
    have hnb37 := NB333_0.out
    have hnc37 := NB0_333.out
    have hcz38_0 : wr.cell? ⟨gb333, 0, none⟩ = some (.string (⟨#[]⟩ : ByteArray)) := (kc_ BK333.out 0).trans rfl
    have hcz38_1 : wr.cell? ⟨gb333, 1, none⟩ = some (.string (⟨#[]⟩ : ByteArray)) := (kc_ BK333.out 1).trans rfl
    have hcz38_2 : wr.cell? ⟨gb333, 2, none⟩ = some (.int .i64 0) := (kc_ BK333.out 2).trans rfl
    have hfz38_0 := kf_ BK333.out 0
    have hfz38_1 := kf_ BK333.out 1
    have hfz38_2 := kf_ BK333.out 2
    go_wp2
    refine bodyPost_ret (results_cell_row rfl _ _ gb333 31 #[.string x335000_1, .string x335001_1, .int .i64 x335002_1] (0, 0) _ rfl (by (with_reducible repeat (first | apply kn_ | apply kd_ | apply ka_)); refine blk_put (cs := #[.string x335000_1, .string x335001_1, .int .i64 0]) ?_ 2 _ rfl; (with_reducible repeat (first | apply kn_ | apply kd_ | apply ka_)); refine blk_put (cs := #[.string x335000_1, .string (⟨#[]⟩ : ByteArray), .int .i64 0]) ?_ 1 _ rfl; (with_reducible repeat (first | apply kn_ | apply kd_ | apply ka_)); refine blk_put (cs := #[.string (⟨#[]⟩ : ByteArray), .string (⟨#[]⟩ : ByteArray), .int .i64 0]) ?_ 0 _ rfl; (with_reducible repeat (first | apply kn_ | apply kd_ | apply ka_)); exact BK333.out) Tryd.underlying31 rfl (by kernel_rfl)) rfl ?_
    exact ⟨by first | rfl | (simp [*, errW_none, errW_some] <;> rfl), by repeat (with_reducible first | exact HI0.out | apply IsS79.alloc | apply IsS79.drewN | apply IsS79.drew | apply IsS79.set_1 | apply IsS79.set_2 | refine IsS79.far ?_ NB0_333.out _ | refine IsS79.far ?_ NB0_334.out _), by repeat (with_reducible first | exact HB.out | apply ba_ | apply bn_ | apply bd_ | refine bs_ ?_ (IsS79.ge HI0.out) | refine bs_ ?_ GE333.out | refine bs_ ?_ GE334.out), by repeat (with_reducible first | exact HK.out | apply KeepBut.set_ | apply keep_drewN | apply keep_drew | apply keep_alloc | refine keep_far ?_ GW333.out _ | refine keep_far ?_ GW334.out _)⟩

def spec_l1Cur_spoilt.f (s0_0 : List Int) (s0_1 : Int) (s0_2 : Int) (a1 : ByteArray) (a2 : ByteArray) : Option (ByteArray × Int × Int) := if a1.toList = ([] : List UInt8) then (if 0 ≤ 1 then (if 1 ≤ (a2.size : Int) then (some (a2.extract 0 1, s0_1, s0_2)) else (none)) else (none)) else ((spec_l1Cur_pick.f s0_0 s0_1 s0_2 (a1.size : Int)).bind fun bt353 => ((spec_l1Cur_pick.f s0_0 bt353.2.1 bt353.2.2 (a2.size : Int)).bind fun bt356 => (if 0 ≤ bt356.1 then (if bt356.1 ≤ (a2.size : Int) then (if 0 ≤ 1 then (if 1 ≤ ((a2.extract (bt356.1 : Int).toNat a2.size).size : Int) then ((spec_l1Cur_pick.f s0_0 bt356.2.1 bt356.2.2 3).bind fun bt359 => (if bt359.1 = 0 then (if 0 ≤ bt353.1 then (if bt353.1 ≤ (a1.size : Int) then (if (a1.extract 0 (bt353.1 : Int).toNat).size + ((a2.extract (bt356.1 : Int).toNat a2.size).extract 0 1).size ≤ 9223372036854775807 then (if ((a1.extract 0 (bt353.1 : Int).toNat) ++ ((a2.extract (bt356.1 : Int).toNat a2.size).extract 0 1)).size + (a1.extract (bt353.1 : Int).toNat a1.size).size ≤ 9223372036854775807 then (some (((a1.extract 0 (bt353.1 : Int).toNat) ++ ((a2.extract (bt356.1 : Int).toNat a2.size).extract 0 1)) ++ (a1.extract (bt353.1 : Int).toNat a1.size), bt359.2.1, bt359.2.2)) else (none)) else (none)) else (none)) else (none)) else (if bt359.1 = 1 then (if 0 ≤ bt353.1 then (if bt353.1 ≤ (a1.size : Int) then (if (a1.extract 0 (bt353.1 : Int).toNat).size + ((a2.extract (bt356.1 : Int).toNat a2.size).extract 0 1).size ≤ 9223372036854775807 then (if 0 ≤ (wrap64 (bt353.1 + 1)) then (if (wrap64 (bt353.1 + 1)) ≤ (a1.size : Int) then (if ((a1.extract 0 (bt353.1 : Int).toNat) ++ ((a2.extract (bt356.1 : Int).toNat a2.size).extract 0 1)).size + (a1.extract ((wrap64 (bt353.1 + 1)) : Int).toNat a1.size).size ≤ 9223372036854775807 then (some (((a1.extract 0 (bt353.1 : Int).toNat) ++ ((a2.extract (bt356.1 : Int).toNat a2.size).extract 0 1)) ++ (a1.extract ((wrap64 (bt353.1 + 1)) : Int).toNat a1.size), bt359.2.1, bt359.2.2)) else (none)) else (none)) else (none)) else (none)) else (none)) else (none)) else (if 0 ≤ bt353.1 then (if bt353.1 ≤ (a1.size : Int) then (if 0 ≤ (wrap64 (bt353.1 + 1)) then (if (wrap64 (bt353.1 + 1)) ≤ (a1.size : Int) then (if (a1.extract 0 (bt353.1 : Int).toNat).size + (a1.extract ((wrap64 (bt353.1 + 1)) : Int).toNat a1.size).size ≤ 9223372036854775807 then (some ((a1.extract 0 (bt353.1 : Int).toNat) ++ (a1.extract ((wrap64 (bt353.1 + 1)) : Int).toNat a1.size), bt359.2.1, bt359.2.2)) else (none)) else (none)) else (none)) else (none)) else (none))))) else (none)) else (none)) else (none)) else (none))))
theorem spec_l1Cur_spoilt.calls (g : Nat) (s0_0 : List Int) (s0_1 : Int) (s0_2 : Int) (a1 : ByteArray) (a2 : ByteArray) (r1 : ByteArray) (r2 : Int) (r3 : Int) (w0 w : World) (hI : IsS79 w0 w g s0_0 s0_1 s0_2) (hB : Below w0.heap.size w0 w) (h : spec_l1Cur_spoilt.f s0_0 s0_1 s0_2 a1 a2 = some (r1, r2, r3)) :
  Calls Tryd.prog 65 #[.pointer (some ⟨g, 0, none⟩), .string a1, .string a2] w fun e w' => e = .returned (.string r1) ∧ IsS79 w0 w' g s0_0 r2 r3 ∧ Below w0.heap.size w0 w' ∧ KeepBut w w' g none := by
 have HI0 := A0_ hI
 have HK := A0_ (KeepBut.refl w g none)
 have HL := A0_ hB.size
 clear hI
 have HW0 := A0_ hB.size
 have HB := A0_ hB
 clear hB
 have H : (if a1.toList = ([] : List UInt8) then (if 0 ≤ 1 then (if 1 ≤ (a2.size : Int) then (some (a2.extract 0 1, s0_1, s0_2)) else (none)) else (none)) else ((spec_l1Cur_pick.f s0_0 s0_1 s0_2 (a1.size : Int)).bind fun bt353 => ((spec_l1Cur_pick.f s0_0 bt353.2.1 bt353.2.2 (a2.size : Int)).bind fun bt356 => (if 0 ≤ bt356.1 then (if bt356.1 ≤ (a2.size : Int) then (if 0 ≤ 1 then (if 1 ≤ ((a2.extract (bt356.1 : Int).toNat a2.size).size : Int) then ((spec_l1Cur_pick.f s0_0 bt356.2.1 bt356.2.2 3).bind fun bt359 => (if bt359.1 = 0 then (if 0 ≤ bt353.1 then (if bt353.1 ≤ (a1.size : Int) then (if (a1.extract 0 (bt353.1 : Int).toNat).size + ((a2.extract (bt356.1 : Int).toNat a2.size).extract 0 1).size ≤ 9223372036854775807 then (if ((a1.extract 0 (bt353.1 : Int).toNat) ++ ((a2.extract (bt356.1 : Int).toNat a2.size).extract 0 1)).size + (a1.extract (bt353.1 : Int).toNat a1.size).size ≤ 9223372036854775807 then (some (((a1.extract 0 (bt353.1 : Int).toNat) ++ ((a2.extract (bt356.1 : Int).toNat a2.size).extract 0 1)) ++ (a1.extract (bt353.1 : Int).toNat a1.size), bt359.2.1, bt359.2.2)) else (none)) else (none)) else (none)) else (none)) else (if bt359.1 = 1 then (if 0 ≤ bt353.1 then (if bt353.1 ≤ (a1.size : Int) then (if (a1.extract 0 (bt353.1 : Int).toNat).size + ((a2.extract (bt356.1 : Int).toNat a2.size).extract 0 1).size ≤ 9223372036854775807 then (if 0 ≤ (wrap64 (bt353.1 + 1)) then (if (wrap64 (bt353.1 + 1)) ≤ (a1.size : Int) then (if ((a1.extract 0 (bt353.1 : Int).toNat) ++ ((a2.extract (bt356.1 : Int).toNat a2.size).extract 0 1)).size + (a1.extract ((wrap64 (bt353.1 + 1)) : Int).toNat a1.size).size ≤ 9223372036854775807 then (some (((a1.extract 0 (bt353.1 : Int).toNat) ++ ((a2.extract (bt356.1 : Int).toNat a2.size).extract 0 1)) ++ (a1.extract ((wrap64 (bt353.1 + 1)) : Int).toNat a1.size), bt359.2.1, bt359.2.2)) else (none)) else (none)) else (none)) else (none)) else (none)) else (none)) else (if 0 ≤ bt353.1 then (if bt353.1 ≤ (a1.size : Int) then (if 0 ≤ (wrap64 (bt353.1 + 1)) then (if (wrap64 (bt353.1 + 1)) ≤ (a1.size : Int) then (if (a1.extract 0 (bt353.1 : Int).toNat).size + (a1.extract ((wrap64 (bt353.1 + 1)) : Int).toNat a1.size).size ≤ 9223372036854775807 then (some ((a1.extract 0 (bt353.1 : Int).toNat) ++ (a1.extract ((wrap64 (bt353.1 + 1)) : Int).toNat a1.size), bt359.2.1, bt359.2.2)) else (none)) else (none)) else (none)) else (none)) else (none))))) else (none)) else (none)) else (none)) else (none))))) = some (r1, r2, r3) := h
 clear h
 by_cases c4 : a1.toList = ([] : List UInt8)
 ·rw [if_pos c4] at H
  have c4b0 : (a1.toList == ([] : List UInt8)) = true := beq_iff_eq.mpr c4
  have c4b1 : (a1.toList != ([] : List UInt8)) = false := bne_eq_false_iff_eq.mpr c4
  clear c4
  by_cases c5 : 0 ≤ 1
  ·rw [if_pos c5] at H
   have c5b0 := eq_true c5
   have c5b1 : decide (0 ≤ 1) = true := dt_ c5
   clear c5
   by_cases c6 : 1 ≤ (a2.size : Int)
   ·rw [if_pos c6] at H
    have c6b0 := eq_true c6
    have c6b1 : decide (1 ≤ (a2.size : Int)) = true := dt_ c6
    clear c6
    simp only [sj_, pj_] at H
    obtain ⟨rfl, rfl, rfl⟩ := H
    go_enter Tryd.func65, Tryd.ntmps65
    go_wp2
    repeat (go_quiet (fail); try go_wp2)
    go_ret
    exact ⟨by first | rfl | (simp [*, errW_none, errW_some] <;> rfl), by repeat (with_reducible first | exact HI0.out | apply IsS79.alloc | apply IsS79.drewN | apply IsS79.drew | apply IsS79.set_1 | apply IsS79.set_2), by repeat (with_reducible first | exact HB.out | apply ba_ | apply bn_ | apply bd_ | refine bs_ ?_ (IsS79.ge HI0.out)), by repeat (with_reducible first | exact HK.out | apply KeepBut.set_ | apply keep_drewN | apply keep_drew | apply keep_alloc)⟩
   ·rw [if_neg c6] at H
    exact absurd H (by simp)
  ·rw [if_neg c5] at H
   exact absurd H (by simp)
 ·rw [if_neg c4] at H
  have c4b0 : (a1.toList == ([] : List UInt8)) = false := beq_eq_false_iff_ne.mpr c4
  have c4b1 : (a1.toList != ([] : List UInt8)) = true := bne_iff_ne.mpr c4
  replace H := ob_.mp H
  obtain ⟨⟨t353, t354, t355⟩, A70, H⟩ := H
  have A7 := A0_ A70
  clear A70
  replace H := ob_.mp H
  obtain ⟨⟨t356, t357, t358⟩, A80, H⟩ := H
  have A8 := A0_ A80
  clear A80
  by_cases c9 : 0 ≤ t356
  ·rw [if_pos c9] at H
   have c9b0 := eq_true c9
   have c9b1 : decide (0 ≤ t356) = true := dt_ c9
   clear c9
   by_cases c10 : t356 ≤ (a2.size : Int)
   ·rw [if_pos c10] at H
    have c10b0 := eq_true c10
    have c10b1 : decide (t356 ≤ (a2.size : Int)) = true := dt_ c10
    clear c10
    obtain ⟨wa0_, hwa0_⟩ : ∃ x_ : ByteArray, (a2.extract (t356 : Int).toNat a2.size) = x_ := ⟨_, rfl⟩
    rw [hwa0_] at H
    by_cases c11 : 0 ≤ 1
    ·rw [if_pos c11] at H
     have c11b0 := eq_true c11
     have c11b1 : decide (0 ≤ 1) = true := dt_ c11
     clear c11
     by_cases c12 : 1 ≤ (wa0_.size : Int)
     ·rw [if_pos c12] at H
      have c12b0 := eq_true c12
      have c12b1 : decide (1 ≤ (wa0_.size : Int)) = true := dt_ c12
      clear c12
      obtain ⟨wb1_, hwb1_⟩ : ∃ x_ : ByteArray, (wa0_.extract 0 1) = x_ := ⟨_, rfl⟩
      rw [hwb1_] at H
      replace H := ob_.mp H
      obtain ⟨⟨t359, t360, t361⟩, A130, H⟩ := H
      have A13 := A0_ A130
      clear A130
      by_cases c14 : t359 = 0
      ·rw [if_pos c14] at H
       have c14b0 : (t359 == 0) = true := beq_iff_eq.mpr c14
       have c14b1 : (t359 != 0) = false := bne_eq_false_iff_eq.mpr c14
       clear c14
       by_cases c15 : 0 ≤ t353
       ·rw [if_pos c15] at H
        have c15b0 := eq_true c15
        have c15b1 : decide (0 ≤ t353) = true := dt_ c15
        clear c15
        by_cases c16 : t353 ≤ (a1.size : Int)
        ·rw [if_pos c16] at H
         have c16b0 := eq_true c16
         have c16b1 : decide (t353 ≤ (a1.size : Int)) = true := dt_ c16
         clear c16
         obtain ⟨wd2_, hwd2_⟩ : ∃ x_ : ByteArray, (a1.extract 0 (t353 : Int).toNat) = x_ := ⟨_, rfl⟩
         rw [hwd2_] at H
         obtain ⟨wc2_, hwc2_⟩ : ∃ x_ : ByteArray, (a1.extract (t353 : Int).toNat a1.size) = x_ := ⟨_, rfl⟩
         rw [hwc2_] at H
         by_cases c17 : wd2_.size + wb1_.size ≤ 9223372036854775807
         ·rw [if_pos c17] at H
          have c17b0 := eq_true c17
          have c17b1 : decide (wd2_.size + wb1_.size ≤ 9223372036854775807) = true := dt_ c17
          try have c17b2 : (9223372036854775807 < wd2_.size + wb1_.size) = False := eq_false (Nat.not_lt.2 c17)
          have c18b0 := eq_true (od_ (by first | (with_reducible assumption) | assumption) : 0 ≤ t353)
          have c19b0 := eq_true (od_ (by first | (with_reducible assumption) | assumption) : t353 ≤ (a1.size : Int))
          by_cases c20 : (wd2_ ++ wb1_).size + wc2_.size ≤ 9223372036854775807
          ·rw [if_pos c20] at H
           have c20b0 := eq_true c20
           have c20b1 : decide ((wd2_ ++ wb1_).size + wc2_.size ≤ 9223372036854775807) = true := dt_ c20
           try have c20b2 : (9223372036854775807 < (wd2_ ++ wb1_).size + wc2_.size) = False := eq_false (Nat.not_lt.2 c20)
           try (have c20b3 : (9223372036854775807 < (wd2_ ++ wb1_).size + wc2_.size) = False := eq_false (Nat.not_lt.2 c20); simp only [ByteArray.size_append] at c20b3)
           simp only [sj_, pj_] at H
           obtain ⟨rfl, rfl, rfl⟩ := H
           go_enter Tryd.func65, Tryd.ntmps65
           go_wp2_with (first | (go_at_call 61; (with_reducible refine (spec_l1Cur_pick.calls g s0_0 s0_1 s0_2 (a1.size : Int) t353 t354 t355 w0 _ ?side1 ?side2 A7.out).mono ?_); (case side1 => repeat (with_reducible first | exact HI0.out | apply IsS79.alloc | apply IsS79.drewN | apply IsS79.drew | apply IsS79.set_1 | apply IsS79.set_2)); (case side2 => repeat (with_reducible first | exact HB.out | apply ba_ | apply bn_ | apply bd_ | refine bs_ ?_ (IsS79.ge HI0.out))); rintro e w21 ⟨rfl, hi, hb, hk⟩; replace HK := A0_ (KeepBut.trans (by repeat (with_reducible first | exact HK.out | apply KeepBut.set_ | apply keep_drewN | apply keep_drew | apply keep_alloc)) hk (.inl rfl)); replace HB := A0_ (hb); replace HI0 := A0_ (hi); (try clear hb); (try clear hk); (try clear hi)) | (go_at_call 61; (with_reducible refine (spec_l1Cur_pick.calls g s0_0 t354 t355 (a2.size : Int) t356 t357 t358 w0 _ ?side1 ?side2 A8.out).mono ?_); (case side1 => repeat (with_reducible first | exact HI0.out | apply IsS79.alloc | apply IsS79.drewN | apply IsS79.drew | apply IsS79.set_1 | apply IsS79.set_2)); (case side2 => repeat (with_reducible first | exact HB.out | apply ba_ | apply bn_ | apply bd_ | refine bs_ ?_ (IsS79.ge HI0.out))); rintro e w22 ⟨rfl, hi, hb, hk⟩; replace HK := A0_ (KeepBut.trans (by repeat (with_reducible first | exact HK.out | apply KeepBut.set_ | apply keep_drewN | apply keep_drew | apply keep_alloc)) hk (.inl rfl)); replace HB := A0_ (hb); replace HI0 := A0_ (hi); (try clear hb); (try clear hk); (try clear hi)) | (go_at_call 61; (with_reducible refine (spec_l1Cur_pick.calls g s0_0 t357 t358 3 t359 t360 t361 w0 _ ?side1 ?side2 A13.out).mono ?_); (case side1 => repeat (with_reducible first | exact HI0.out | apply IsS79.alloc | apply IsS79.drewN | apply IsS79.drew | apply IsS79.set_1 | apply IsS79.set_2)); (case side2 => repeat (with_reducible first | exact HB.out | apply ba_ | apply bn_ | apply bd_ | refine bs_ ?_ (IsS79.ge HI0.out))); rintro e w23 ⟨rfl, hi, hb, hk⟩; replace HK := A0_ (KeepBut.trans (by repeat (with_reducible first | exact HK.out | apply KeepBut.set_ | apply keep_drewN | apply keep_drew | apply keep_alloc)) hk (.inl rfl)); replace HB := A0_ (hb); replace HI0 := A0_ (hi); (try clear hb); (try clear hk); (try clear hi)))
           repeat (go_quiet (first | (go_at_call 61; (with_reducible refine (spec_l1Cur_pick.calls g s0_0 s0_1 s0_2 (a1.size : Int) t353 t354 t355 w0 _ ?side1 ?side2 A7.out).mono ?_); (case side1 => repeat (with_reducible first | exact HI0.out | apply IsS79.alloc | apply IsS79.drewN | apply IsS79.drew | apply IsS79.set_1 | apply IsS79.set_2)); (case side2 => repeat (with_reducible first | exact HB.out | apply ba_ | apply bn_ | apply bd_ | refine bs_ ?_ (IsS79.ge HI0.out))); rintro e w21 ⟨rfl, hi, hb, hk⟩; replace HK := A0_ (KeepBut.trans (by repeat (with_reducible first | exact HK.out | apply KeepBut.set_ | apply keep_drewN | apply keep_drew | apply keep_alloc)) hk (.inl rfl)); replace HB := A0_ (hb); replace HI0 := A0_ (hi); (try clear hb); (try clear hk); (try clear hi)) | (go_at_call 61; (with_reducible refine (spec_l1Cur_pick.calls g s0_0 t354 t355 (a2.size : Int) t356 t357 t358 w0 _ ?side1 ?side2 A8.out).mono ?_); (case side1 => repeat (with_reducible first | exact HI0.out | apply IsS79.alloc | apply IsS79.drewN | apply IsS79.drew | apply IsS79.set_1 | apply IsS79.set_2)); (case side2 => repeat (with_reducible first | exact HB.out | apply ba_ | apply bn_ | apply bd_ | refine bs_ ?_ (IsS79.ge HI0.out))); rintro e w22 ⟨rfl, hi, hb, hk⟩; replace HK := A0_ (KeepBut.trans (by repeat (with_reducible first | exact HK.out | apply KeepBut.set_ | apply keep_drewN | apply keep_drew | apply keep_alloc)) hk (.inl rfl)); replace HB := A0_ (hb); replace HI0 := A0_ (hi); (try clear hb); (try clear hk); (try clear hi)) | (go_at_call 61; (with_reducible refine (spec_l1Cur_pick.calls g s0_0 t357 t358 3 t359 t360 t361 w0 _ ?side1 ?side2 A13.out).mono ?_); (case side1 => repeat (with_reducible first | exact HI0.out | apply IsS79.alloc | apply IsS79.drewN | apply IsS79.drew | apply IsS79.set_1 | apply IsS79.set_2)); (case side2 => repeat (with_reducible first | exact HB.out | apply ba_ | apply bn_ | apply bd_ | refine bs_ ?_ (IsS79.ge HI0.out))); rintro e w23 ⟨rfl, hi, hb, hk⟩; replace HK := A0_ (KeepBut.trans (by repeat (with_reducible first | exact HK.out | apply KeepBut.set_ | apply keep_drewN | apply keep_drew | apply keep_alloc)) hk (.inl rfl)); replace HB := A0_ (hb); replace HI0 := A0_ (hi); (try clear hb); (try clear hk); (try clear hi))); try go_wp2_with (first | (go_at_call 61; (with_reducible refine (spec_l1Cur_pick.calls g s0_0 s0_1 s0_2 (a1.size : Int) t353 t354 t355 w0 _ ?side1 ?side2 A7.out).mono ?_); (case side1 => repeat (with_reducible first | exact HI0.out | apply IsS79.alloc | apply IsS79.drewN | apply IsS79.drew | apply IsS79.set_1 | apply IsS79.set_2)); (case side2 => repeat (with_reducible first | exact HB.out | apply ba_ | apply bn_ | apply bd_ | refine bs_ ?_ (IsS79.ge HI0.out))); rintro e w21 ⟨rfl, hi, hb, hk⟩; replace HK := A0_ (KeepBut.trans (by repeat (with_reducible first | exact HK.out | apply KeepBut.set_ | apply keep_drewN | apply keep_drew | apply keep_alloc)) hk (.inl rfl)); replace HB := A0_ (hb); replace HI0 := A0_ (hi); (try clear hb); (try clear hk); (try clear hi)) | (go_at_call 61; (with_reducible refine (spec_l1Cur_pick.calls g s0_0 t354 t355 (a2.size : Int) t356 t357 t358 w0 _ ?side1 ?side2 A8.out).mono ?_); (case side1 => repeat (with_reducible first | exact HI0.out | apply IsS79.alloc | apply IsS79.drewN | apply IsS79.drew | apply IsS79.set_1 | apply IsS79.set_2)); (case side2 => repeat (with_reducible first | exact HB.out | apply ba_ | apply bn_ | apply bd_ | refine bs_ ?_ (IsS79.ge HI0.out))); rintro e w22 ⟨rfl, hi, hb, hk⟩; replace HK := A0_ (KeepBut.trans (by repeat (with_reducible first | exact HK.out | apply KeepBut.set_ | apply keep_drewN | apply keep_drew | apply keep_alloc)) hk (.inl rfl)); replace HB := A0_ (hb); replace HI0 := A0_ (hi); (try clear hb); (try clear hk); (try clear hi)) | (go_at_call 61; (with_reducible refine (spec_l1Cur_pick.calls g s0_0 t357 t358 3 t359 t360 t361 w0 _ ?side1 ?side2 A13.out).mono ?_); (case side1 => repeat (with_reducible first | exact HI0.out | apply IsS79.alloc | apply IsS79.drewN | apply IsS79.drew | apply IsS79.set_1 | apply IsS79.set_2)); (case side2 => repeat (with_reducible first | exact HB.out | apply ba_ | apply bn_ | apply bd_ | refine bs_ ?_ (IsS79.ge HI0.out))); rintro e w23 ⟨rfl, hi, hb, hk⟩; replace HK := A0_ (KeepBut.trans (by repeat (with_reducible first | exact HK.out | apply KeepBut.set_ | apply keep_drewN | apply keep_drew | apply keep_alloc)) hk (.inl rfl)); replace HB := A0_ (hb); replace HI0 := A0_ (hi); (try clear hb); (try clear hk); (try clear hi))))
           go_ret
           exact ⟨by first | rfl | (simp [*, errW_none, errW_some] <;> rfl), by repeat (with_reducible first | exact HI0.out | apply IsS79.alloc | apply IsS79.drewN | apply IsS79.drew | apply IsS79.set_1 | apply IsS79.set_2), by repeat (with_reducible first | exact HB.out | apply ba_ | apply bn_ | apply bd_ | refine bs_ ?_ (IsS79.ge HI0.out)), by repeat (with_reducible first | exact HK.out | apply KeepBut.set_ | apply keep_drewN | apply keep_drew | apply keep_alloc)⟩
          ·rw [if_neg c20] at H
           exact absurd H (by simp)
         ·rw [if_neg c17] at H
          exact absurd H (by simp)
        ·rw [if_neg c16] at H
         exact absurd H (by simp)
       ·rw [if_neg c15] at H
        exact absurd H (by simp)
      ·rw [if_neg c14] at H
       have c14b0 : (t359 == 0) = false := beq_eq_false_iff_ne.mpr c14
       have c14b1 : (t359 != 0) = true := bne_iff_ne.mpr c14
       by_cases c24 : t359 = 1
       ·rw [if_pos c24] at H
        have c24b0 : (t359 == 1) = true := beq_iff_eq.mpr c24
        have c24b1 : (t359 != 1) = false := bne_eq_false_iff_eq.mpr c24
        clear c24
        by_cases c25 : 0 ≤ t353
        ·rw [if_pos c25] at H
         have c25b0 := eq_true c25
         have c25b1 : decide (0 ≤ t353) = true := dt_ c25
         clear c25
         by_cases c26 : t353 ≤ (a1.size : Int)
         ·rw [if_pos c26] at H
          have c26b0 := eq_true c26
          have c26b1 : decide (t353 ≤ (a1.size : Int)) = true := dt_ c26
          clear c26
          obtain ⟨wd3_, hwd3_⟩ : ∃ x_ : ByteArray, (a1.extract 0 (t353 : Int).toNat) = x_ := ⟨_, rfl⟩
          rw [hwd3_] at H
          by_cases c27 : wd3_.size + wb1_.size ≤ 9223372036854775807
          ·rw [if_pos c27] at H
           have c27b0 := eq_true c27
           have c27b1 : decide (wd3_.size + wb1_.size ≤ 9223372036854775807) = true := dt_ c27
           try have c27b2 : (9223372036854775807 < wd3_.size + wb1_.size) = False := eq_false (Nat.not_lt.2 c27)
           obtain ⟨ji28, hji28⟩ : ∃ j_ : Int, (wrap64 (t353 + 1)) = j_ := ⟨_, rfl⟩
           replace H : (if 0 ≤ (ji28) then (if (ji28) ≤ (a1.size : Int) then (if (wd3_ ++ wb1_).size + (a1.extract ((ji28) : Int).toNat a1.size).size ≤ 9223372036854775807 then (some ((wd3_ ++ wb1_) ++ (a1.extract ((ji28) : Int).toNat a1.size), t360, t361)) else (none)) else (none)) else (none)) = some (r1, r2, r3) := by first | (rw [hji28] at H; exact H) | (simp only [hji28] at H ⊢; exact H)
           (try rw [hji28] at A7)
           (try rw [hji28] at A8)
           (try rw [hji28] at A13)
           have hji28w : (IntKind.i64.wrap (t353 + 1)) = ji28 := (i64_w _).trans hji28
           by_cases c29 : 0 ≤ (ji28)
           ·rw [if_pos c29] at H
            have c29b0 := eq_true c29
            have c29b1 : decide (0 ≤ (ji28)) = true := dt_ c29
            clear c29
            by_cases c30 : (ji28) ≤ (a1.size : Int)
            ·rw [if_pos c30] at H
             have c30b0 := eq_true c30
             have c30b1 : decide ((ji28) ≤ (a1.size : Int)) = true := dt_ c30
             clear c30
             obtain ⟨we5_, hwe5_⟩ : ∃ x_ : ByteArray, (a1.extract ((ji28) : Int).toNat a1.size) = x_ := ⟨_, rfl⟩
             rw [hwe5_] at H
             by_cases c31 : (wd3_ ++ wb1_).size + we5_.size ≤ 9223372036854775807
             ·rw [if_pos c31] at H
              have c31b0 := eq_true c31
              have c31b1 : decide ((wd3_ ++ wb1_).size + we5_.size ≤ 9223372036854775807) = true := dt_ c31
              try have c31b2 : (9223372036854775807 < (wd3_ ++ wb1_).size + we5_.size) = False := eq_false (Nat.not_lt.2 c31)
              try (have c31b3 : (9223372036854775807 < (wd3_ ++ wb1_).size + we5_.size) = False := eq_false (Nat.not_lt.2 c31); simp only [ByteArray.size_append] at c31b3)
              simp only [sj_, pj_] at H
              obtain ⟨rfl, rfl, rfl⟩ := H
              go_enter Tryd.func65, Tryd.ntmps65
              go_wp2_with (first | (go_at_call 61; (with_reducible refine (spec_l1Cur_pick.calls g s0_0 s0_1 s0_2 (a1.size : Int) t353 t354 t355 w0 _ ?side1 ?side2 A7.out).mono ?_); (case side1 => repeat (with_reducible first | exact HI0.out | apply IsS79.alloc | apply IsS79.drewN | apply IsS79.drew | apply IsS79.set_1 | apply IsS79.set_2)); (case side2 => repeat (with_reducible first | exact HB.out | apply ba_ | apply bn_ | apply bd_ | refine bs_ ?_ (IsS79.ge HI0.out))); rintro e w32 ⟨rfl, hi, hb, hk⟩; replace HK := A0_ (KeepBut.trans (by repeat (with_reducible first | exact HK.out | apply KeepBut.set_ | apply keep_drewN | apply keep_drew | apply keep_alloc)) hk (.inl rfl)); replace HB := A0_ (hb); replace HI0 := A0_ (hi); (try clear hb); (try clear hk); (try clear hi)) | (go_at_call 61; (with_reducible refine (spec_l1Cur_pick.calls g s0_0 t354 t355 (a2.size : Int) t356 t357 t358 w0 _ ?side1 ?side2 A8.out).mono ?_); (case side1 => repeat (with_reducible first | exact HI0.out | apply IsS79.alloc | apply IsS79.drewN | apply IsS79.drew | apply IsS79.set_1 | apply IsS79.set_2)); (case side2 => repeat (with_reducible first | exact HB.out | apply ba_ | apply bn_ | apply bd_ | refine bs_ ?_ (IsS79.ge HI0.out))); rintro e w33 ⟨rfl, hi, hb, hk⟩; replace HK := A0_ (KeepBut.trans (by repeat (with_reducible first | exact HK.out | apply KeepBut.set_ | apply keep_drewN | apply keep_drew | apply keep_alloc)) hk (.inl rfl)); replace HB := A0_ (hb); replace HI0 := A0_ (hi); (try clear hb); (try clear hk); (try clear hi)) | (go_at_call 61; (with_reducible refine (spec_l1Cur_pick.calls g s0_0 t357 t358 3 t359 t360 t361 w0 _ ?side1 ?side2 A13.out).mono ?_); (case side1 => repeat (with_reducible first | exact HI0.out | apply IsS79.alloc | apply IsS79.drewN | apply IsS79.drew | apply IsS79.set_1 | apply IsS79.set_2)); (case side2 => repeat (with_reducible first | exact HB.out | apply ba_ | apply bn_ | apply bd_ | refine bs_ ?_ (IsS79.ge HI0.out))); rintro e w34 ⟨rfl, hi, hb, hk⟩; replace HK := A0_ (KeepBut.trans (by repeat (with_reducible first | exact HK.out | apply KeepBut.set_ | apply keep_drewN | apply keep_drew | apply keep_alloc)) hk (.inl rfl)); replace HB := A0_ (hb); replace HI0 := A0_ (hi); (try clear hb); (try clear hk); (try clear hi)))
              repeat (go_quiet (first | (go_at_call 61; (with_reducible refine (spec_l1Cur_pick.calls g s0_0 s0_1 s0_2 (a1.size : Int) t353 t354 t355 w0 _ ?side1 ?side2 A7.out).mono ?_); (case side1 => repeat (with_reducible first | exact HI0.out | apply IsS79.alloc | apply IsS79.drewN | apply IsS79.drew | apply IsS79.set_1 | apply IsS79.set_2)); (case side2 => repeat (with_reducible first | exact HB.out | apply ba_ | apply bn_ | apply bd_ | refine bs_ ?_ (IsS79.ge HI0.out))); rintro e w32 ⟨rfl, hi, hb, hk⟩; replace HK := A0_ (KeepBut.trans (by repeat (with_reducible first | exact HK.out | apply KeepBut.set_ | apply keep_drewN | apply keep_drew | apply keep_alloc)) hk (.inl rfl)); replace HB := A0_ (hb); replace HI0 := A0_ (hi); (try clear hb); (try clear hk); (try clear hi)) | (go_at_call 61; (with_reducible refine (spec_l1Cur_pick.calls g s0_0 t354 t355 (a2.size : Int) t356 t357 t358 w0 _ ?side1 ?side2 A8.out).mono ?_); (case side1 => repeat (with_reducible first | exact HI0.out | apply IsS79.alloc | apply IsS79.drewN | apply IsS79.drew | apply IsS79.set_1 | apply IsS79.set_2)); (case side2 => repeat (with_reducible first | exact HB.out | apply ba_ | apply bn_ | apply bd_ | refine bs_ ?_ (IsS79.ge HI0.out))); rintro e w33 ⟨rfl, hi, hb, hk⟩; replace HK := A0_ (KeepBut.trans (by repeat (with_reducible first | exact HK.out | apply KeepBut.set_ | apply keep_drewN | apply keep_drew | apply keep_alloc)) hk (.inl rfl)); replace HB := A0_ (hb); replace HI0 := A0_ (hi); (try clear hb); (try clear hk); (try clear hi)) | (go_at_call 61; (with_reducible refine (spec_l1Cur_pick.calls g s0_0 t357 t358 3 t359 t360 t361 w0 _ ?side1 ?side2 A13.out).mono ?_); (case side1 => repeat (with_reducible first | exact HI0.out | apply IsS79.alloc | apply IsS79.drewN | apply IsS79.drew | apply IsS79.set_1 | apply IsS79.set_2)); (case side2 => repeat (with_reducible first | exact HB.out | apply ba_ | apply bn_ | apply bd_ | refine bs_ ?_ (IsS79.ge HI0.out))); rintro e w34 ⟨rfl, hi, hb, hk⟩; replace HK := A0_ (KeepBut.trans (by repeat (with_reducible first | exact HK.out | apply KeepBut.set_ | apply keep_drewN | apply keep_drew | apply keep_alloc)) hk (.inl rfl)); replace HB := A0_ (hb); replace HI0 := A0_ (hi); (try clear hb); (try clear hk); (try clear hi))); try go_wp2_with (first | (go_at_call 61; (with_reducible refine (spec_l1Cur_pick.calls g s0_0 s0_1 s0_2 (a1.size : Int) t353 t354 t355 w0 _ ?side1 ?side2 A7.out).mono ?_); (case side1 => repeat (with_reducible first | exact HI0.out | apply IsS79.alloc | apply IsS79.drewN | apply IsS79.drew | apply IsS79.set_1 | apply IsS79.set_2)); (case side2 => repeat (with_reducible first | exact HB.out | apply ba_ | apply bn_ | apply bd_ | refine bs_ ?_ (IsS79.ge HI0.out))); rintro e w32 ⟨rfl, hi, hb, hk⟩; replace HK := A0_ (KeepBut.trans (by repeat (with_reducible first | exact HK.out | apply KeepBut.set_ | apply keep_drewN | apply keep_drew | apply keep_alloc)) hk (.inl rfl)); replace HB := A0_ (hb); replace HI0 := A0_ (hi); (try clear hb); (try clear hk); (try clear hi)) | (go_at_call 61; (with_reducible refine (spec_l1Cur_pick.calls g s0_0 t354 t355 (a2.size : Int) t356 t357 t358 w0 _ ?side1 ?side2 A8.out).mono ?_); (case side1 => repeat (with_reducible first | exact HI0.out | apply IsS79.alloc | apply IsS79.drewN | apply IsS79.drew | apply IsS79.set_1 | apply IsS79.set_2)); (case side2 => repeat (with_reducible first | exact HB.out | apply ba_ | apply bn_ | apply bd_ | refine bs_ ?_ (IsS79.ge HI0.out))); rintro e w33 ⟨rfl, hi, hb, hk⟩; replace HK := A0_ (KeepBut.trans (by repeat (with_reducible first | exact HK.out | apply KeepBut.set_ | apply keep_drewN | apply keep_drew | apply keep_alloc)) hk (.inl rfl)); replace HB := A0_ (hb); replace HI0 := A0_ (hi); (try clear hb); (try clear hk); (try clear hi)) | (go_at_call 61; (with_reducible refine (spec_l1Cur_pick.calls g s0_0 t357 t358 3 t359 t360 t361 w0 _ ?side1 ?side2 A13.out).mono ?_); (case side1 => repeat (with_reducible first | exact HI0.out | apply IsS79.alloc | apply IsS79.drewN | apply IsS79.drew | apply IsS79.set_1 | apply IsS79.set_2)); (case side2 => repeat (with_reducible first | exact HB.out | apply ba_ | apply bn_ | apply bd_ | refine bs_ ?_ (IsS79.ge HI0.out))); rintro e w34 ⟨rfl, hi, hb, hk⟩; replace HK := A0_ (KeepBut.trans (by repeat (with_reducible first | exact HK.out | apply KeepBut.set_ | apply keep_drewN | apply keep_drew | apply keep_alloc)) hk (.inl rfl)); replace HB := A0_ (hb); replace HI0 := A0_ (hi); (try clear hb); (try clear hk); (try clear hi))))
              go_ret
              exact ⟨by first | rfl | (simp [errW_none, errW_some] <;> rfl) | (simp only [← hji28]; first | rfl | (simp [errW_none, errW_some] <;> rfl)) | (simp [*, errW_none, errW_some] <;> rfl), by repeat (with_reducible first | exact HI0.out | apply IsS79.alloc | apply IsS79.drewN | apply IsS79.drew | apply IsS79.set_1 | apply IsS79.set_2), by repeat (with_reducible first | exact HB.out | apply ba_ | apply bn_ | apply bd_ | refine bs_ ?_ (IsS79.ge HI0.out)), by repeat (with_reducible first | exact HK.out | apply KeepBut.set_ | apply keep_drewN | apply keep_drew | apply keep_alloc)⟩
             ·rw [if_neg c31] at H
              exact absurd H (by simp)
            ·rw [if_neg c30] at H
             exact absurd H (by simp)
           ·rw [if_neg c29] at H
            exact absurd H (by simp)
          ·rw [if_neg c27] at H
           exact absurd H (by simp)
         ·rw [if_neg c26] at H
          exact absurd H (by simp)
        ·rw [if_neg c25] at H
         exact absurd H (by simp)
       ·rw [if_neg c24] at H
        have c24b0 : (t359 == 1) = false := beq_eq_false_iff_ne.mpr c24
        have c24b1 : (t359 != 1) = true := bne_iff_ne.mpr c24
        by_cases c35 : 0 ≤ t353
        ·rw [if_pos c35] at H
         have c35b0 := eq_true c35
         have c35b1 : decide (0 ≤ t353) = true := dt_ c35
         clear c35
         by_cases c36 : t353 ≤ (a1.size : Int)
         ·rw [if_pos c36] at H
          have c36b0 := eq_true c36
          have c36b1 : decide (t353 ≤ (a1.size : Int)) = true := dt_ c36
          clear c36
          obtain ⟨wd3_, hwd3_⟩ : ∃ x_ : ByteArray, (a1.extract 0 (t353 : Int).toNat) = x_ := ⟨_, rfl⟩
          rw [hwd3_] at H
          obtain ⟨ji37, hji37⟩ : ∃ j_ : Int, (wrap64 (t353 + 1)) = j_ := ⟨_, rfl⟩
          replace H : (if 0 ≤ (ji37) then (if (ji37) ≤ (a1.size : Int) then (if wd3_.size + (a1.extract ((ji37) : Int).toNat a1.size).size ≤ 9223372036854775807 then (some (wd3_ ++ (a1.extract ((ji37) : Int).toNat a1.size), t360, t361)) else (none)) else (none)) else (none)) = some (r1, r2, r3) := by first | (rw [hji37] at H; exact H) | (simp only [hji37] at H ⊢; exact H)
          (try rw [hji37] at A7)
          (try rw [hji37] at A8)
          (try rw [hji37] at A13)
          have hji37w : (IntKind.i64.wrap (t353 + 1)) = ji37 := (i64_w _).trans hji37
          by_cases c38 : 0 ≤ (ji37)
          ·rw [if_pos c38] at H
           have c38b0 := eq_true c38
           have c38b1 : decide (0 ≤ (ji37)) = true := dt_ c38
           clear c38
           by_cases c39 : (ji37) ≤ (a1.size : Int)
           ·rw [if_pos c39] at H
            have c39b0 := eq_true c39
            have c39b1 : decide ((ji37) ≤ (a1.size : Int)) = true := dt_ c39
            clear c39
            obtain ⟨we6_, hwe6_⟩ : ∃ x_ : ByteArray, (a1.extract ((ji37) : Int).toNat a1.size) = x_ := ⟨_, rfl⟩
            rw [hwe6_] at H
            by_cases c40 : wd3_.size + we6_.size ≤ 9223372036854775807
            ·rw [if_pos c40] at H
             have c40b0 := eq_true c40
             have c40b1 : decide (wd3_.size + we6_.size ≤ 9223372036854775807) = true := dt_ c40
             try have c40b2 : (9223372036854775807 < wd3_.size + we6_.size) = False := eq_false (Nat.not_lt.2 c40)
             simp only [sj_, pj_] at H
             obtain ⟨rfl, rfl, rfl⟩ := H
             go_enter Tryd.func65, Tryd.ntmps65
             go_wp2_with (first | (go_at_call 61; (with_reducible refine (spec_l1Cur_pick.calls g s0_0 s0_1 s0_2 (a1.size : Int) t353 t354 t355 w0 _ ?side1 ?side2 A7.out).mono ?_); (case side1 => repeat (with_reducible first | exact HI0.out | apply IsS79.alloc | apply IsS79.drewN | apply IsS79.drew | apply IsS79.set_1 | apply IsS79.set_2)); (case side2 => repeat (with_reducible first | exact HB.out | apply ba_ | apply bn_ | apply bd_ | refine bs_ ?_ (IsS79.ge HI0.out))); rintro e w41 ⟨rfl, hi, hb, hk⟩; replace HK := A0_ (KeepBut.trans (by repeat (with_reducible first | exact HK.out | apply KeepBut.set_ | apply keep_drewN | apply keep_drew | apply keep_alloc)) hk (.inl rfl)); replace HB := A0_ (hb); replace HI0 := A0_ (hi); (try clear hb); (try clear hk); (try clear hi)) | (go_at_call 61; (with_reducible refine (spec_l1Cur_pick.calls g s0_0 t354 t355 (a2.size : Int) t356 t357 t358 w0 _ ?side1 ?side2 A8.out).mono ?_); (case side1 => repeat (with_reducible first | exact HI0.out | apply IsS79.alloc | apply IsS79.drewN | apply IsS79.drew | apply IsS79.set_1 | apply IsS79.set_2)); (case side2 => repeat (with_reducible first | exact HB.out | apply ba_ | apply bn_ | apply bd_ | refine bs_ ?_ (IsS79.ge HI0.out))); rintro e w42 ⟨rfl, hi, hb, hk⟩; replace HK := A0_ (KeepBut.trans (by repeat (with_reducible first | exact HK.out | apply KeepBut.set_ | apply keep_drewN | apply keep_drew | apply keep_alloc)) hk (.inl rfl)); replace HB := A0_ (hb); replace HI0 := A0_ (hi); (try clear hb); (try clear hk); (try clear hi)) | (go_at_call 61; (with_reducible refine (spec_l1Cur_pick.calls g s0_0 t357 t358 3 t359 t360 t361 w0 _ ?side1 ?side2 A13.out).mono ?_); (case side1 => repeat (with_reducible first | exact HI0.out | apply IsS79.alloc | apply IsS79.drewN | apply IsS79.drew | apply IsS79.set_1 | apply IsS79.set_2)); (case side2 => repeat (with_reducible first | exact HB.out | apply ba_ | apply bn_ | apply bd_ | refine bs_ ?_ (IsS79.ge HI0.out))); rintro e w43 ⟨rfl, hi, hb, hk⟩; replace HK := A0_ (KeepBut.trans (by repeat (with_reducible first | exact HK.out | apply KeepBut.set_ | apply keep_drewN | apply keep_drew | apply keep_alloc)) hk (.inl rfl)); replace HB := A0_ (hb); replace HI0 := A0_ (hi); (try clear hb); (try clear hk); (try clear hi)))
             repeat (go_quiet (first | (go_at_call 61; (with_reducible refine (spec_l1Cur_pick.calls g s0_0 s0_1 s0_2 (a1.size : Int) t353 t354 t355 w0 _ ?side1 ?side2 A7.out).mono ?_); (case side1 => repeat (with_reducible first | exact HI0.out | apply IsS79.alloc | apply IsS79.drewN | apply IsS79.drew | apply IsS79.set_1 | apply IsS79.set_2)); (case side2 => repeat (with_reducible first | exact HB.out | apply ba_ | apply bn_ | apply bd_ | refine bs_ ?_ (IsS79.ge HI0.out))); rintro e w41 ⟨rfl, hi, hb, hk⟩; replace HK := A0_ (KeepBut.trans (by repeat (with_reducible first | exact HK.out | apply KeepBut.set_ | apply keep_drewN | apply keep_drew | apply keep_alloc)) hk (.inl rfl)); replace HB := A0_ (hb); replace HI0 := A0_ (hi); (try clear hb); (try clear hk); (try clear hi)) | (go_at_call 61; (with_reducible refine (spec_l1Cur_pick.calls g s0_0 t354 t355 (a2.size : Int) t356 t357 t358 w0 _ ?side1 ?side2 A8.out).mono ?_); (case side1 => repeat (with_reducible first | exact HI0.out | apply IsS79.alloc | apply IsS79.drewN | apply IsS79.drew | apply IsS79.set_1 | apply IsS79.set_2)); (case side2 => repeat (with_reducible first | exact HB.out | apply ba_ | apply bn_ | apply bd_ | refine bs_ ?_ (IsS79.ge HI0.out))); rintro e w42 ⟨rfl, hi, hb, hk⟩; replace HK := A0_ (KeepBut.trans (by repeat (with_reducible first | exact HK.out | apply KeepBut.set_ | apply keep_drewN | apply keep_drew | apply keep_alloc)) hk (.inl rfl)); replace HB := A0_ (hb); replace HI0 := A0_ (hi); (try clear hb); (try clear hk); (try clear hi)) | (go_at_call 61; (with_reducible refine (spec_l1Cur_pick.calls g s0_0 t357 t358 3 t359 t360 t361 w0 _ ?side1 ?side2 A13.out).mono ?_); (case side1 => repeat (with_reducible first | exact HI0.out | apply IsS79.alloc | apply IsS79.drewN | apply IsS79.drew | apply IsS79.set_1 | apply IsS79.set_2)); (case side2 => repeat (with_reducible first | exact HB.out | apply ba_ | apply bn_ | apply bd_ | refine bs_ ?_ (IsS79.ge HI0.out))); rintro e w43 ⟨rfl, hi, hb, hk⟩; replace HK := A0_ (KeepBut.trans (by repeat (with_reducible first | exact HK.out | apply KeepBut.set_ | apply keep_drewN | apply keep_drew | apply keep_alloc)) hk (.inl rfl)); replace HB := A0_ (hb); replace HI0 := A0_ (hi); (try clear hb); (try clear hk); (try clear hi))); try go_wp2_with (first | (go_at_call 61; (with_reducible refine (spec_l1Cur_pick.calls g s0_0 s0_1 s0_2 (a1.size : Int) t353 t354 t355 w0 _ ?side1 ?side2 A7.out).mono ?_); (case side1 => repeat (with_reducible first | exact HI0.out | apply IsS79.alloc | apply IsS79.drewN | apply IsS79.drew | apply IsS79.set_1 | apply IsS79.set_2)); (case side2 => repeat (with_reducible first | exact HB.out | apply ba_ | apply bn_ | apply bd_ | refine bs_ ?_ (IsS79.ge HI0.out))); rintro e w41 ⟨rfl, hi, hb, hk⟩; replace HK := A0_ (KeepBut.trans (by repeat (with_reducible first | exact HK.out | apply KeepBut.set_ | apply keep_drewN | apply keep_drew | apply keep_alloc)) hk (.inl rfl)); replace HB := A0_ (hb); replace HI0 := A0_ (hi); (try clear hb); (try clear hk); (try clear hi)) | (go_at_call 61; (with_reducible refine (spec_l1Cur_pick.calls g s0_0 t354 t355 (a2.size : Int) t356 t357 t358 w0 _ ?side1 ?side2 A8.out).mono ?_); (case side1 => repeat (with_reducible first | exact HI0.out | apply IsS79.alloc | apply IsS79.drewN | apply IsS79.drew | apply IsS79.set_1 | apply IsS79.set_2)); (case side2 => repeat (with_reducible first | exact HB.out | apply ba_ | apply bn_ | apply bd_ | refine bs_ ?_ (IsS79.ge HI0.out))); rintro e w42 ⟨rfl, hi, hb, hk⟩; replace HK := A0_ (KeepBut.trans (by repeat (with_reducible first | exact HK.out | apply KeepBut.set_ | apply keep_drewN | apply keep_drew | apply keep_alloc)) hk (.inl rfl)); replace HB := A0_ (hb); replace HI0 := A0_ (hi); (try clear hb); (try clear hk); (try clear hi)) | (go_at_call 61; (with_reducible refine (spec_l1Cur_pick.calls g s0_0 t357 t358 3 t359 t360 t361 w0 _ ?side1 ?side2 A13.out).mono ?_); (case side1 => repeat (with_reducible first | exact HI0.out | apply IsS79.alloc | apply IsS79.drewN | apply IsS79.drew | apply IsS79.set_1 | apply IsS79.set_2)); (case side2 => repeat (with_reducible first | exact HB.out | apply ba_ | apply bn_ | apply bd_ | refine bs_ ?_ (IsS79.ge HI0.out))); rintro e w43 ⟨rfl, hi, hb, hk⟩; replace HK := A0_ (KeepBut.trans (by repeat (with_reducible first | exact HK.out | apply KeepBut.set_ | apply keep_drewN | apply keep_drew | apply keep_alloc)) hk (.inl rfl)); replace HB := A0_ (hb); replace HI0 := A0_ (hi); (try clear hb); (try clear hk); (try clear hi))))
             go_ret
             exact ⟨by first | rfl | (simp [errW_none, errW_some] <;> rfl) | (simp only [← hji37]; first | rfl | (simp [errW_none, errW_some] <;> rfl)) | (simp [*, errW_none, errW_some] <;> rfl), by repeat (with_reducible first | exact HI0.out | apply IsS79.alloc | apply IsS79.drewN | apply IsS79.drew | apply IsS79.set_1 | apply IsS79.set_2), by repeat (with_reducible first | exact HB.out | apply ba_ | apply bn_ | apply bd_ | refine bs_ ?_ (IsS79.ge HI0.out)), by repeat (with_reducible first | exact HK.out | apply KeepBut.set_ | apply keep_drewN | apply keep_drew | apply keep_alloc)⟩
            ·rw [if_neg c40] at H
             exact absurd H (by simp)
           ·rw [if_neg c39] at H
            exact absurd H (by simp)
          ·rw [if_neg c38] at H
           exact absurd H (by simp)
         ·rw [if_neg c36] at H
          exact absurd H (by simp)
        ·rw [if_neg c35] at H
         exact absurd H (by simp)
     ·rw [if_neg c12] at H
      exact absurd H (by simp)
    ·rw [if_neg c11] at H
     exact absurd H (by simp)
   ·rw [if_neg c10] at H
    exact absurd H (by simp)
  ·rw [if_neg c9] at H
   exact absurd H (by simp)

def spec_l1Cur_anyLog.f (k : Nat) (s0_0 : List Int) (s0_1 : Int) (s0_2 : Int) : Option (ByteArray × ByteArray × Int × Int × Int) := (spec_l1Cur_log12.f k s0_0 s0_1 s0_2).bind fun bt363 => ((spec_l1Cur_pick.f s0_0 bt363.2.2.2.1 bt363.2.2.2.2 24).bind fun bt369 => (if bt369.1 = 0 then (some (bt363.1, bt363.2.1, wrap64 (bt363.2.2.1 + 1), bt369.2.1, bt369.2.2)) else (if bt369.1 = 1 then ((spec_l1Cur_spoilt.f s0_0 bt369.2.1 bt369.2.2 bt363.2.1 (⟨#[35, 64, 10, 48, 49]⟩ : ByteArray)).bind fun bt372 => (some (bt363.1, bt372.1, bt363.2.2.1, bt372.2.1, bt372.2.2))) else (if bt369.1 = 2 then (if bt363.1.size + bt363.2.1.size ≤ 9223372036854775807 then (some (bt363.1 ++ bt363.2.1, bt363.2.1, bt363.2.2.1, bt369.2.1, bt369.2.2)) else (none)) else (some (bt363.1, bt363.2.1, bt363.2.2.1, bt369.2.1, bt369.2.2))))))
theorem spec_l1Cur_anyLog.mono : ∀ a0 a1 a2 k, LeO (spec_l1Cur_anyLog.f k a0 a1 a2) (spec_l1Cur_anyLog.f (k + 1) a0 a1 a2) := by
 intro a0 a1 a2 k
 unfold spec_l1Cur_anyLog.f
 repeat' first
   | (with_reducible exact spec_l1Cur_log12.mono _ _ _ _)
   | (with_reducible exact LeO.refl _)
   | (with_reducible exact LeO.none _)
   | (with_reducible refine LeO.ite ?_ ?_)
   | (with_reducible refine LeO.bind ?_ (fun _ => ?_))
theorem spec_l1Cur_anyLog.calls (k : Nat) (g : Nat) (s0_0 : List Int) (s0_1 : Int) (s0_2 : Int) (r1 : ByteArray) (r2 : ByteArray) (r3 : Int) (r4 : Int) (r5 : Int) (w0 w : World) (hI : IsS79 w0 w g s0_0 s0_1 s0_2) (hB : Below w0.heap.size w0 w) (h : spec_l1Cur_anyLog.f k s0_0 s0_1 s0_2 = some (r1, r2, r3, r4, r5)) :
  Calls Tryd.prog 59 #[.pointer (some ⟨g, 0, none⟩)] w fun e w' => e = .returned (.agg #[.string r1, .string r2, .int .i64 r3]) ∧ IsS79 w0 w' g s0_0 r4 r5 ∧ Below w0.heap.size w0 w' ∧ KeepBut w w' g none := by
 have hu31 := Tryd.underlying31
 have HI0 := A0_ hI
 have HK := A0_ (KeepBut.refl w g none)
 have HL := A0_ hB.size
 clear hI
 have HW0 := A0_ hB.size
 have HB := A0_ hB
 clear hB
 have H : ((spec_l1Cur_log12.f k s0_0 s0_1 s0_2).bind fun bt363 => ((spec_l1Cur_pick.f s0_0 bt363.2.2.2.1 bt363.2.2.2.2 24).bind fun bt369 => (if bt369.1 = 0 then (some (bt363.1, bt363.2.1, wrap64 (bt363.2.2.1 + 1), bt369.2.1, bt369.2.2)) else (if bt369.1 = 1 then ((spec_l1Cur_spoilt.f s0_0 bt369.2.1 bt369.2.2 bt363.2.1 (⟨#[35, 64, 10, 48, 49]⟩ : ByteArray)).bind fun bt372 => (some (bt363.1, bt372.1, bt363.2.2.1, bt372.2.1, bt372.2.2))) else (if bt369.1 = 2 then (if bt363.1.size + bt363.2.1.size ≤ 9223372036854775807 then (some (bt363.1 ++ bt363.2.1, bt363.2.1, bt363.2.2.1, bt369.2.1, bt369.2.2)) else (none)) else (some (bt363.1, bt363.2.1, bt363.2.2.1, bt369.2.1, bt369.2.2))))))) = some (r1, r2, r3, r4, r5) := h
 clear h
 replace H := ob_.mp H
 obtain ⟨⟨t363, t364, t365, t366, t367⟩, A20, H⟩ := H
 have A2 := A0_ A20
 clear A20
 replace H := ob_.mp H
 obtain ⟨⟨t369, t370, t371⟩, A30, H⟩ := H
 have A3 := A0_ A30
 clear A30
 by_cases c4 : t369 = 0
 ·rw [if_pos c4] at H
  have c4b0 : (t369 == 0) = true := beq_iff_eq.mpr c4
  have c4b1 : (t369 != 0) = false := bne_eq_false_iff_eq.mpr c4
  clear c4
  simp only [sj_, pj_] at H
  obtain ⟨rfl, rfl, rfl, rfl, rfl⟩ := H
  go_enter Tryd.func59, Tryd.ntmps59
  go_wp2_with (first | ((with_reducible refine gd_ (N := 2) rfl ?_); refine be_ ?hg (N := 2) ?hd (cs := #[.string (⟨#[]⟩ : ByteArray), .string (⟨#[]⟩ : ByteArray), .int .i64 0]) (t := 31) ?hr ?_; (case hd => rfl); (case hg => rfl); (case hr => go_simp; first | done | rfl); intro gb362 hg w5 hbox hb; replace HB := A0_ (bt_ (by repeat (with_reducible first | exact HB.out | apply ba_ | apply bn_ | apply bd_ | refine bs_ ?_ (IsS79.ge HI0.out))) hb); have BK362 := A0_ (hbox); have GW362 := A0_ ((by rw [hg]; exact (keep_size (w := w) (g := g) (row := none) (by repeat (with_reducible first | exact HK.out | apply KeepBut.set_ | apply keep_drewN | apply keep_drew | apply keep_alloc))) : w.heap.size ≤ gb362)); have GE362 := A0_ ((Nat.le_trans HW0.out (by rw [hg]; exact (keep_size (w := w) (g := g) (row := none) (by repeat (with_reducible first | exact HK.out | apply KeepBut.set_ | apply keep_drewN | apply keep_drew | apply keep_alloc))) : w.heap.size ≤ gb362) : w0.heap.size ≤ gb362)); replace HK := A0_ (KeepBut.trans (by repeat (with_reducible first | exact HK.out | apply KeepBut.set_ | apply keep_drewN | apply keep_drew | apply keep_alloc)) (KeepBut.of_below hb g none) (.inl rfl)); have NB0_362 := A0_ ((by rw [hg]; exact Nat.ne_of_lt (IsS79.lt (show IsS79 w0 _ g s0_0 s0_1 s0_2 from by repeat (with_reducible first | exact HI0.out | apply IsS79.alloc | apply IsS79.drewN | apply IsS79.drew | apply IsS79.set_1 | apply IsS79.set_2))) : g ≠ gb362)); have NB362_0 := A0_ ((by rw [hg]; exact Nat.ne_of_gt (IsS79.lt (show IsS79 w0 _ g s0_0 s0_1 s0_2 from by repeat (with_reducible first | exact HI0.out | apply IsS79.alloc | apply IsS79.drewN | apply IsS79.drew | apply IsS79.set_1 | apply IsS79.set_2))) : gb362 ≠ g)); replace HI0 := A0_ (IsS79.below (by repeat (with_reducible first | exact HI0.out | apply IsS79.alloc | apply IsS79.drewN | apply IsS79.drew | apply IsS79.set_1 | apply IsS79.set_2)) hb); clear hb hbox hg) | ((with_reducible refine gc_ (f := 64) rfl ?_); refine goesL_ (some 5) rfl rfl Tryd.func64 (by kernel_rfl) rfl #[.pointer (some ⟨g, 0, none⟩)] rfl (by (try simp only [ma_, mc_, mn_]); first | done | rfl | (simp only [ld_, lt_]; rfl)) ?_; (with_reducible refine (spec_l1Cur_log12.calls k g s0_0 s0_1 s0_2 t363 t364 t365 t366 t367 w0 _ ?side1 ?side2 A2.out).mono ?_); (case side1 => repeat (with_reducible first | exact HI0.out | apply IsS79.alloc | apply IsS79.drewN | apply IsS79.drew | apply IsS79.set_1 | apply IsS79.set_2 | refine IsS79.far ?_ NB0_362.out _)); (case side2 => repeat (with_reducible first | exact HB.out | apply ba_ | apply bn_ | apply bd_ | refine bs_ ?_ (IsS79.ge HI0.out) | refine bs_ ?_ GE362.out)); rintro e w6 ⟨rfl, hi, hb, hk⟩; refine ⟨_, rfl, ?_⟩; replace BK362 := A0_ (KeepBut.blk hk (g' := gb362) (o := .cells #[.string (⟨#[]⟩ : ByteArray), .string (⟨#[]⟩ : ByteArray), .int .i64 0] 31 (0, 0)) (by (with_reducible repeat (first | apply kn_ | apply kd_ | apply ka_)); exact BK362.out) NB362_0.out (by simp)); replace HK := A0_ (KeepBut.trans (by repeat (with_reducible first | exact HK.out | apply KeepBut.set_ | apply keep_drewN | apply keep_drew | apply keep_alloc | refine keep_far ?_ GW362.out _)) hk (.inl rfl)); replace HB := A0_ (hb); replace HI0 := A0_ (hi); (try clear hb); (try clear hk); (try clear hi)) | ((with_reducible refine gd_ (N := 3) rfl ?_); refine be_ ?hg (N := 3) ?hd (cs := #[.string (⟨#[]⟩ : ByteArray), .string (⟨#[]⟩ : ByteArray), .int .i64 0]) (t := 31) ?hr ?_; (case hd => rfl); (case hg => rfl); (case hr => go_simp; first | done | rfl); intro gb368 hg w7 hbox hb; replace HB := A0_ (bt_ (by repeat (with_reducible first | exact HB.out | apply ba_ | apply bn_ | apply bd_ | refine bs_ ?_ (IsS79.ge HI0.out) | refine bs_ ?_ GE362.out)) hb); have BK368 := A0_ (hbox); have GW368 := A0_ ((by rw [hg]; exact (keep_size (w := w) (g := g) (row := none) (by repeat (with_reducible first | exact HK.out | apply KeepBut.set_ | apply keep_drewN | apply keep_drew | apply keep_alloc | refine keep_far ?_ GW362.out _))) : w.heap.size ≤ gb368)); have GE368 := A0_ ((Nat.le_trans HW0.out (by rw [hg]; exact (keep_size (w := w) (g := g) (row := none) (by repeat (with_reducible first | exact HK.out | apply KeepBut.set_ | apply keep_drewN | apply keep_drew | apply keep_alloc | refine keep_far ?_ GW362.out _))) : w.heap.size ≤ gb368) : w0.heap.size ≤ gb368)); replace HK := A0_ (KeepBut.trans (by repeat (with_reducible first | exact HK.out | apply KeepBut.set_ | apply keep_drewN | apply keep_drew | apply keep_alloc | refine keep_far ?_ GW362.out _)) (KeepBut.of_below hb g none) (.inl rfl)); have NB362_368 := A0_ ((by rw [hg]; exact Nat.ne_of_lt (blk_lt (g := gb362) (o := .cells #[.string (⟨#[]⟩ : ByteArray), .string (⟨#[]⟩ : ByteArray), .int .i64 0] 31 (0, 0)) (by (with_reducible repeat (first | apply kn_ | apply kd_ | apply ka_)); exact BK362.out)) : gb362 ≠ gb368)); have NB368_362 := A0_ ((by rw [hg]; exact Nat.ne_of_gt (blk_lt (g := gb362) (o := .cells #[.string (⟨#[]⟩ : ByteArray), .string (⟨#[]⟩ : ByteArray), .int .i64 0] 31 (0, 0)) (by (with_reducible repeat (first | apply kn_ | apply kd_ | apply ka_)); exact BK362.out)) : gb368 ≠ gb362)); replace BK362 := A0_ (kb_ (g := gb362) (o := .cells #[.string (⟨#[]⟩ : ByteArray), .string (⟨#[]⟩ : ByteArray), .int .i64 0] 31 (0, 0)) (by (with_reducible repeat (first | apply kn_ | apply kd_ | apply ka_)); exact BK362.out) hb); have NB0_368 := A0_ ((by rw [hg]; exact Nat.ne_of_lt (IsS79.lt (show IsS79 w0 _ g s0_0 t366 t367 from by repeat (with_reducible first | exact HI0.out | apply IsS79.alloc | apply IsS79.drewN | apply IsS79.drew | apply IsS79.set_1 | apply IsS79.set_2 | refine IsS79.far ?_ NB0_362.out _))) : g ≠ gb368)); have NB368_0 := A0_ ((by rw [hg]; exact Nat.ne_of_gt (IsS79.lt (show IsS79 w0 _ g s0_0 t366 t367 from by repeat (with_reducible first | exact HI0.out | apply IsS79.alloc | apply IsS79.drewN | apply IsS79.drew | apply IsS79.set_1 | apply IsS79.set_2 | refine IsS79.far ?_ NB0_362.out _))) : gb368 ≠ g)); replace HI0 := A0_ (IsS79.below (by repeat (with_reducible first | exact HI0.out | apply IsS79.alloc | apply IsS79.drewN | apply IsS79.drew | apply IsS79.set_1 | apply IsS79.set_2 | refine IsS79.far ?_ NB0_362.out _)) hb); clear hb hbox hg; have hnb8 := NB368_362.out; have hnc8 := NB362_368.out; have hnb9 := NB368_0.out; have hnc9 := NB0_368.out; have hcz10_0 : w7.cell? ⟨gb368, 0, none⟩ = some (.string (⟨#[]⟩ : ByteArray)) := (kc_ BK368.out 0).trans rfl; have hcz10_1 : w7.cell? ⟨gb368, 1, none⟩ = some (.string (⟨#[]⟩ : ByteArray)) := (kc_ BK368.out 1).trans rfl; have hcz10_2 : w7.cell? ⟨gb368, 2, none⟩ = some (.int .i64 0) := (kc_ BK368.out 2).trans rfl; have hfz10_0 := kf_ BK368.out 0; have hfz10_1 := kf_ BK368.out 1; have hfz10_2 := kf_ BK368.out 2) | ((with_reducible refine gc_ (f := 61) rfl ?_); refine goesL_ (some 7) rfl rfl Tryd.func61 (by kernel_rfl) rfl #[.pointer (some ⟨g, 0, none⟩), .int .i64 24] rfl (by (try simp only [ma_, mc_, mn_]); first | done | rfl | (simp only [ld_, lt_]; rfl)) ?_; (with_reducible refine (spec_l1Cur_pick.calls g s0_0 t366 t367 24 t369 t370 t371 w0 _ ?side1 ?side2 A3.out).mono ?_); (case side1 => repeat (with_reducible first | exact HI0.out | apply IsS79.alloc | apply IsS79.drewN | apply IsS79.drew | apply IsS79.set_1 | apply IsS79.set_2 | refine IsS79.far ?_ NB0_362.out _ | refine IsS79.far ?_ NB0_368.out _)); (case side2 => repeat (with_reducible first | exact HB.out | apply ba_ | apply bn_ | apply bd_ | refine bs_ ?_ (IsS79.ge HI0.out) | refine bs_ ?_ GE362.out | refine bs_ ?_ GE368.out)); rintro e w11 ⟨rfl, hi, hb, hk⟩; refine ⟨_, rfl, ?_⟩; replace BK362 := A0_ (KeepBut.blk hk (g' := gb362) (o := .cells #[.string (⟨#[]⟩ : ByteArray), .string (⟨#[]⟩ : ByteArray), .int .i64 0] 31 (0, 0)) (by (with_reducible repeat (first | apply kn_ | apply kd_ | apply ka_)); refine blk_far ?_ NB362_368.out _; (with_reducible repeat (first | apply kn_ | apply kd_ | apply ka_)); refine blk_far ?_ NB362_368.out _; (with_reducible repeat (first | apply kn_ | apply kd_ | apply ka_)); refine blk_far ?_ NB362_368.out _; (with_reducible repeat (first | apply kn_ | apply kd_ | apply ka_)); exact BK362.out) NB362_0.out (by simp)); replace BK368 := A0_ (KeepBut.blk hk (g' := gb368) (o := .cells #[.string t363, .string t364, .int .i64 t365] 31 (0, 0)) (by (with_reducible repeat (first | apply kn_ | apply kd_ | apply ka_)); refine blk_put (cs := #[.string t363, .string t364, .int .i64 0]) ?_ 2 _ rfl; (with_reducible repeat (first | apply kn_ | apply kd_ | apply ka_)); refine blk_put (cs := #[.string t363, .string (⟨#[]⟩ : ByteArray), .int .i64 0]) ?_ 1 _ rfl; (with_reducible repeat (first | apply kn_ | apply kd_ | apply ka_)); refine blk_put (cs := #[.string (⟨#[]⟩ : ByteArray), .string (⟨#[]⟩ : ByteArray), .int .i64 0]) ?_ 0 _ rfl; (with_reducible repeat (first | apply kn_ | apply kd_ | apply ka_)); exact BK368.out) NB368_0.out (by simp)); replace HK := A0_ (KeepBut.trans (by repeat (with_reducible first | exact HK.out | apply KeepBut.set_ | apply keep_drewN | apply keep_drew | apply keep_alloc | refine keep_far ?_ GW362.out _ | refine keep_far ?_ GW368.out _)) hk (.inl rfl)); replace HB := A0_ (hb); replace HI0 := A0_ (hi); (try clear hb); (try clear hk); (try clear hi); have hcz12_0 : w11.cell? ⟨gb368, 0, none⟩ = some (.string t363) := (kc_ BK368.out 0).trans rfl; have hcz12_1 : w11.cell? ⟨gb368, 1, none⟩ = some (.string t364) := (kc_ BK368.out 1).trans rfl; have hcz12_2 : w11.cell? ⟨gb368, 2, none⟩ = some (.int .i64 t365) := (kc_ BK368.out 2).trans rfl; have hfz12_0 := kf_ BK368.out 0; have hfz12_1 := kf_ BK368.out 1; have hfz12_2 := kf_ BK368.out 2; have hnb13 := NB362_0.out; have hnc13 := NB0_362.out; have hcz14_0 : w11.cell? ⟨gb362, 0, none⟩ = some (.string (⟨#[]⟩ : ByteArray)) := (kc_ BK362.out 0).trans rfl; have hcz14_1 : w11.cell? ⟨gb362, 1, none⟩ = some (.string (⟨#[]⟩ : ByteArray)) := (kc_ BK362.out 1).trans rfl; have hcz14_2 : w11.cell? ⟨gb362, 2, none⟩ = some (.int .i64 0) := (kc_ BK362.out 2).trans rfl; have hfz14_0 := kf_ BK362.out 0; have hfz14_1 := kf_ BK362.out 1; have hfz14_2 := kf_ BK362.out 2))
  refine bodyPost_ret (results_cell_row rfl _ _ gb362 31 #[.string t363, .string t364, .int .i64 (wrap64 (t365 + 1))] (0, 0) _ rfl (by (with_reducible repeat (first | apply kn_ | apply kd_ | apply ka_)); refine blk_put (cs := #[.string t363, .string t364, .int .i64 0]) ?_ 2 _ rfl; (with_reducible repeat (first | apply kn_ | apply kd_ | apply ka_)); refine blk_put (cs := #[.string t363, .string (⟨#[]⟩ : ByteArray), .int .i64 0]) ?_ 1 _ rfl; (with_reducible repeat (first | apply kn_ | apply kd_ | apply ka_)); refine blk_put (cs := #[.string (⟨#[]⟩ : ByteArray), .string (⟨#[]⟩ : ByteArray), .int .i64 0]) ?_ 0 _ rfl; (with_reducible repeat (first | apply kn_ | apply kd_ | apply ka_)); refine blk_far ?_ NB362_368.out _; (with_reducible repeat (first | apply kn_ | apply kd_ | apply ka_)); exact BK362.out) Tryd.underlying31 rfl (by kernel_rfl)) rfl ?_
  exact ⟨by first | rfl | (simp [*, errW_none, errW_some] <;> rfl), by repeat (with_reducible first | exact HI0.out | apply IsS79.alloc | apply IsS79.drewN | apply IsS79.drew | apply IsS79.set_1 | apply IsS79.set_2 | refine IsS79.far ?_ NB0_362.out _ | refine IsS79.far ?_ NB0_368.out _), by repeat (with_reducible first | exact HB.out | apply ba_ | apply bn_ | apply bd_ | refine bs_ ?_ (IsS79.ge HI0.out) | refine bs_ ?_ GE362.out | refine bs_ ?_ GE368.out), by repeat (with_reducible first | exact HK.out | apply KeepBut.set_ | apply keep_drewN | apply keep_drew | apply keep_alloc | refine keep_far ?_ GW362.out _ | refine keep_far ?_ GW368.out _)⟩
 ·rw [if_neg c4] at H
  have c4b0 : (t369 == 0) = false := beq_eq_false_iff_ne.mpr c4
  have c4b1 : (t369 != 0) = true := bne_iff_ne.mpr c4
  by_cases c15 : t369 = 1
  ·rw [if_pos c15] at H
   have c15b0 : (t369 == 1) = true := beq_iff_eq.mpr c15
   have c15b1 : (t369 != 1) = false := bne_eq_false_iff_eq.mpr c15
   clear c15
   replace H := ob_.mp H
   obtain ⟨⟨t372, t373, t374⟩, A160, H⟩ := H
   replace H : (some (t363, t372, t365, t373, t374)) = some (r1, r2, r3, r4, r5) := H
   have A16 := A0_ A160
   clear A160
   simp only [sj_, pj_] at H
   obtain ⟨rfl, rfl, rfl, rfl, rfl⟩ := H
   go_enter Tryd.func59, Tryd.ntmps59
   go_wp2_with (first | ((with_reducible refine gd_ (N := 2) rfl ?_); refine be_ ?hg (N := 2) ?hd (cs := #[.string (⟨#[]⟩ : ByteArray), .string (⟨#[]⟩ : ByteArray), .int .i64 0]) (t := 31) ?hr ?_; (case hd => rfl); (case hg => rfl); (case hr => go_simp; first | done | rfl); intro gb362 hg w17 hbox hb; replace HB := A0_ (bt_ (by repeat (with_reducible first | exact HB.out | apply ba_ | apply bn_ | apply bd_ | refine bs_ ?_ (IsS79.ge HI0.out))) hb); have BK362 := A0_ (hbox); have GW362 := A0_ ((by rw [hg]; exact (keep_size (w := w) (g := g) (row := none) (by repeat (with_reducible first | exact HK.out | apply KeepBut.set_ | apply keep_drewN | apply keep_drew | apply keep_alloc))) : w.heap.size ≤ gb362)); have GE362 := A0_ ((Nat.le_trans HW0.out (by rw [hg]; exact (keep_size (w := w) (g := g) (row := none) (by repeat (with_reducible first | exact HK.out | apply KeepBut.set_ | apply keep_drewN | apply keep_drew | apply keep_alloc))) : w.heap.size ≤ gb362) : w0.heap.size ≤ gb362)); replace HK := A0_ (KeepBut.trans (by repeat (with_reducible first | exact HK.out | apply KeepBut.set_ | apply keep_drewN | apply keep_drew | apply keep_alloc)) (KeepBut.of_below hb g none) (.inl rfl)); have NB0_362 := A0_ ((by rw [hg]; exact Nat.ne_of_lt (IsS79.lt (show IsS79 w0 _ g s0_0 s0_1 s0_2 from by repeat (with_reducible first | exact HI0.out | apply IsS79.alloc | apply IsS79.drewN | apply IsS79.drew | apply IsS79.set_1 | apply IsS79.set_2))) : g ≠ gb362)); have NB362_0 := A0_ ((by rw [hg]; exact Nat.ne_of_gt (IsS79.lt (show IsS79 w0 _ g s0_0 s0_1 s0_2 from by repeat (with_reducible first | exact HI0.out | apply IsS79.alloc | apply IsS79.drewN | apply IsS79.drew | apply IsS79.set_1 | apply IsS79.set_2))) : gb362 ≠ g)); replace HI0 := A0_ (IsS79.below (by repeat (with_reducible first | exact HI0.out | apply IsS79.alloc | apply IsS79.drewN | apply IsS79.drew | apply IsS79.set_1 | apply IsS79.set_2)) hb); clear hb hbox hg) | ((with_reducible refine gc_ (f := 64) rfl ?_); refine goesL_ (some 5) rfl rfl Tryd.func64 (by kernel_rfl) rfl #[.pointer (some ⟨g, 0, none⟩)] rfl (by (try simp only [ma_, mc_, mn_]); first | done | rfl | (simp only [ld_, lt_]; rfl)) ?_; (with_reducible refine (spec_l1Cur_log12.calls k g s0_0 s0_1 s0_2 t363 t364 t365 t366 t367 w0 _ ?side1 ?side2 A2.out).mono ?_); (case side1 => repeat (with_reducible first | exact HI0.out | apply IsS79.alloc | apply IsS79.drewN | apply IsS79.drew | apply IsS79.set_1 | apply IsS79.set_2 | refine IsS79.far ?_ NB0_362.out _)); (case side2 => repeat (with_reducible first | exact HB.out | apply ba_ | apply bn_ | apply bd_ | refine bs_ ?_ (IsS79.ge HI0.out) | refine bs_ ?_ GE362.out)); rintro e w18 ⟨rfl, hi, hb, hk⟩; refine ⟨_, rfl, ?_⟩; replace BK362 := A0_ (KeepBut.blk hk (g' := gb362) (o := .cells #[.string (⟨#[]⟩ : ByteArray), .string (⟨#[]⟩ : ByteArray), .int .i64 0] 31 (0, 0)) (by (with_reducible repeat (first | apply kn_ | apply kd_ | apply ka_)); exact BK362.out) NB362_0.out (by simp)); replace HK := A0_ (KeepBut.trans (by repeat (with_reducible first | exact HK.out | apply KeepBut.set_ | apply keep_drewN | apply keep_drew | apply keep_alloc | refine keep_far ?_ GW362.out _)) hk (.inl rfl)); replace HB := A0_ (hb); replace HI0 := A0_ (hi); (try clear hb); (try clear hk); (try clear hi)) | ((with_reducible refine gd_ (N := 3) rfl ?_); refine be_ ?hg (N := 3) ?hd (cs := #[.string (⟨#[]⟩ : ByteArray), .string (⟨#[]⟩ : ByteArray), .int .i64 0]) (t := 31) ?hr ?_; (case hd => rfl); (case hg => rfl); (case hr => go_simp; first | done | rfl); intro gb368 hg w19 hbox hb; replace HB := A0_ (bt_ (by repeat (with_reducible first | exact HB.out | apply ba_ | apply bn_ | apply bd_ | refine bs_ ?_ (IsS79.ge HI0.out) | refine bs_ ?_ GE362.out)) hb); have BK368 := A0_ (hbox); have GW368 := A0_ ((by rw [hg]; exact (keep_size (w := w) (g := g) (row := none) (by repeat (with_reducible first | exact HK.out | apply KeepBut.set_ | apply keep_drewN | apply keep_drew | apply keep_alloc | refine keep_far ?_ GW362.out _))) : w.heap.size ≤ gb368)); have GE368 := A0_ ((Nat.le_trans HW0.out (by rw [hg]; exact (keep_size (w := w) (g := g) (row := none) (by repeat (with_reducible first | exact HK.out | apply KeepBut.set_ | apply keep_drewN | apply keep_drew | apply keep_alloc | refine keep_far ?_ GW362.out _))) : w.heap.size ≤ gb368) : w0.heap.size ≤ gb368)); replace HK := A0_ (KeepBut.trans (by repeat (with_reducible first | exact HK.out | apply KeepBut.set_ | apply keep_drewN | apply keep_drew | apply keep_alloc | refine keep_far ?_ GW362.out _)) (KeepBut.of_below hb g none) (.inl rfl)); have NB362_368 := A0_ ((by rw [hg]; exact Nat.ne_of_lt (blk_lt (g := gb362) (o := .cells #[.string (⟨#[]⟩ : ByteArray), .string (⟨#[]⟩ : ByteArray), .int .i64 0] 31 (0, 0)) (by (with_reducible repeat (first | apply kn_ | apply kd_ | apply ka_)); exact BK362.out)) : gb362 ≠ gb368)); have NB368_362 := A0_ ((by rw [hg]; exact Nat.ne_of_gt (blk_lt (g := gb362) (o := .cells #[.string (⟨#[]⟩ : ByteArray), .string (⟨#[]⟩ : ByteArray), .int .i64 0] 31 (0, 0)) (by (with_reducible repeat (first | apply kn_ | apply kd_ | apply ka_)); exact BK362.out)) : gb368 ≠ gb362)); replace BK362 := A0_ (kb_ (g := gb362) (o := .cells #[.string (⟨#[]⟩ : ByteArray), .string (⟨#[]⟩ : ByteArray), .int .i64 0] 31 (0, 0)) (by (with_reducible repeat (first | apply kn_ | apply kd_ | apply ka_)); exact BK362.out) hb); have NB0_368 := A0_ ((by rw [hg]; exact Nat.ne_of_lt (IsS79.lt (show IsS79 w0 _ g s0_0 t366 t367 from by repeat (with_reducible first | exact HI0.out | apply IsS79.alloc | apply IsS79.drewN | apply IsS79.drew | apply IsS79.set_1 | apply IsS79.set_2 | refine IsS79.far ?_ NB0_362.out _))) : g ≠ gb368)); have NB368_0 := A0_ ((by rw [hg]; exact Nat.ne_of_gt (IsS79.lt (show IsS79 w0 _ g s0_0 t366 t367 from by repeat (with_reducible first | exact HI0.out | apply IsS79.alloc | apply IsS79.drewN | apply IsS79.drew | apply IsS79.set_1 | apply IsS79.set_2 | refine IsS79.far ?_ NB0_362.out _))) : gb368 ≠ g)); replace HI0 := A0_ (IsS79.below (by repeat (with_reducible first | exact HI0.out | apply IsS79.alloc | apply IsS79.drewN | apply IsS79.drew | apply IsS79.set_1 | apply IsS79.set_2 | refine IsS79.far ?_ NB0_362.out _)) hb); clear hb hbox hg; have hnb20 := NB368_362.out; have hnc20 := NB362_368.out; have hnb21 := NB368_0.out; have hnc21 := NB0_368.out; have hcz22_0 : w19.cell? ⟨gb368, 0, none⟩ = some (.string (⟨#[]⟩ : ByteArray)) := (kc_ BK368.out 0).trans rfl; have hcz22_1 : w19.cell? ⟨gb368, 1, none⟩ = some (.string (⟨#[]⟩ : ByteArray)) := (kc_ BK368.out 1).trans rfl; have hcz22_2 : w19.cell? ⟨gb368, 2, none⟩ = some (.int .i64 0) := (kc_ BK368.out 2).trans rfl; have hfz22_0 := kf_ BK368.out 0; have hfz22_1 := kf_ BK368.out 1; have hfz22_2 := kf_ BK368.out 2) | ((with_reducible refine gc_ (f := 61) rfl ?_); refine goesL_ (some 7) rfl rfl Tryd.func61 (by kernel_rfl) rfl #[.pointer (some ⟨g, 0, none⟩), .int .i64 24] rfl (by (try simp only [ma_, mc_, mn_]); first | done | rfl | (simp only [ld_, lt_]; rfl)) ?_; (with_reducible refine (spec_l1Cur_pick.calls g s0_0 t366 t367 24 t369 t370 t371 w0 _ ?side1 ?side2 A3.out).mono ?_); (case side1 => repeat (with_reducible first | exact HI0.out | apply IsS79.alloc | apply IsS79.drewN | apply IsS79.drew | apply IsS79.set_1 | apply IsS79.set_2 | refine IsS79.far ?_ NB0_362.out _ | refine IsS79.far ?_ NB0_368.out _)); (case side2 => repeat (with_reducible first | exact HB.out | apply ba_ | apply bn_ | apply bd_ | refine bs_ ?_ (IsS79.ge HI0.out) | refine bs_ ?_ GE362.out | refine bs_ ?_ GE368.out)); rintro e w23 ⟨rfl, hi, hb, hk⟩; refine ⟨_, rfl, ?_⟩; replace BK362 := A0_ (KeepBut.blk hk (g' := gb362) (o := .cells #[.string (⟨#[]⟩ : ByteArray), .string (⟨#[]⟩ : ByteArray), .int .i64 0] 31 (0, 0)) (by (with_reducible repeat (first | apply kn_ | apply kd_ | apply ka_)); refine blk_far ?_ NB362_368.out _; (with_reducible repeat (first | apply kn_ | apply kd_ | apply ka_)); refine blk_far ?_ NB362_368.out _; (with_reducible repeat (first | apply kn_ | apply kd_ | apply ka_)); refine blk_far ?_ NB362_368.out _; (with_reducible repeat (first | apply kn_ | apply kd_ | apply ka_)); exact BK362.out) NB362_0.out (by simp)); replace BK368 := A0_ (KeepBut.blk hk (g' := gb368) (o := .cells #[.string t363, .string t364, .int .i64 t365] 31 (0, 0)) (by (with_reducible repeat (first | apply kn_ | apply kd_ | apply ka_)); refine blk_put (cs := #[.string t363, .string t364, .int .i64 0]) ?_ 2 _ rfl; (with_reducible repeat (first | apply kn_ | apply kd_ | apply ka_)); refine blk_put (cs := #[.string t363, .string (⟨#[]⟩ : ByteArray), .int .i64 0]) ?_ 1 _ rfl; (with_reducible repeat (first | apply kn_ | apply kd_ | apply ka_)); refine blk_put (cs := #[.string (⟨#[]⟩ : ByteArray), .string (⟨#[]⟩ : ByteArray), .int .i64 0]) ?_ 0 _ rfl; (with_reducible repeat (first | apply kn_ | apply kd_ | apply ka_)); exact BK368.out) NB368_0.out (by simp)); replace HK := A0_ (KeepBut.trans (by repeat (with_reducible first | exact HK.out | apply KeepBut.set_ | apply keep_drewN | apply keep_drew | apply keep_alloc | refine keep_far ?_ GW362.out _ | refine keep_far ?_ GW368.out _)) hk (.inl rfl)); replace HB := A0_ (hb); replace HI0 := A0_ (hi); (try clear hb); (try clear hk); (try clear hi); have hcz24_0 : w23.cell? ⟨gb368, 0, none⟩ = some (.string t363) := (kc_ BK368.out 0).trans rfl; have hcz24_1 : w23.cell? ⟨gb368, 1, none⟩ = some (.string t364) := (kc_ BK368.out 1).trans rfl; have hcz24_2 : w23.cell? ⟨gb368, 2, none⟩ = some (.int .i64 t365) := (kc_ BK368.out 2).trans rfl; have hfz24_0 := kf_ BK368.out 0; have hfz24_1 := kf_ BK368.out 1; have hfz24_2 := kf_ BK368.out 2) | ((with_reducible refine gc_ (f := 65) rfl ?_); refine goesL_ (some 19) rfl rfl Tryd.func65 (by kernel_rfl) rfl #[.pointer (some ⟨g, 0, none⟩), .string t364, .string (⟨#[35, 64, 10, 48, 49]⟩ : ByteArray)] rfl (by (try simp only [ma_, mc_, mn_]); first | done | rfl | (simp only [ld_, lt_]; rfl)) ?_; (with_reducible refine (spec_l1Cur_spoilt.calls g s0_0 t370 t371 t364 (⟨#[35, 64, 10, 48, 49]⟩ : ByteArray) t372 t373 t374 w0 _ ?side1 ?side2 A16.out).mono ?_); (case side1 => repeat (with_reducible first | exact HI0.out | apply IsS79.alloc | apply IsS79.drewN | apply IsS79.drew | apply IsS79.set_1 | apply IsS79.set_2 | refine IsS79.far ?_ NB0_362.out _ | refine IsS79.far ?_ NB0_368.out _)); (case side2 => repeat (with_reducible first | exact HB.out | apply ba_ | apply bn_ | apply bd_ | refine bs_ ?_ (IsS79.ge HI0.out) | refine bs_ ?_ GE362.out | refine bs_ ?_ GE368.out)); rintro e w25 ⟨rfl, hi, hb, hk⟩; refine ⟨_, rfl, ?_⟩; replace BK362 := A0_ (KeepBut.blk hk (g' := gb362) (o := .cells #[.string (⟨#[]⟩ : ByteArray), .string (⟨#[]⟩ : ByteArray), .int .i64 0] 31 (0, 0)) (by (with_reducible repeat (first | apply kn_ | apply kd_ | apply ka_)); exact BK362.out) NB362_0.out (by simp)); replace BK368 := A0_ (KeepBut.blk hk (g' := gb368) (o := .cells #[.string t363, .string t364, .int .i64 t365] 31 (0, 0)) (by (with_reducible repeat (first | apply kn_ | apply kd_ | apply ka_)); exact BK368.out) NB368_0.out (by simp)); replace HK := A0_ (KeepBut.trans (by repeat (with_reducible first | exact HK.out | apply KeepBut.set_ | apply keep_drewN | apply keep_drew | apply keep_alloc | refine keep_far ?_ GW362.out _ | refine keep_far ?_ GW368.out _)) hk (.inl rfl)); replace HB := A0_ (hb); replace HI0 := A0_ (hi); (try clear hb); (try clear hk); (try clear hi); have hcz26_0 : w25.cell? ⟨gb368, 0, none⟩ = some (.string t363) := (kc_ BK368.out 0).trans rfl; have hcz26_1 : w25.cell? ⟨gb368, 1, none⟩ = some (.string t364) := (kc_ BK368.out 1).trans rfl; have hcz26_2 : w25.cell? ⟨gb368, 2, none⟩ = some (.int .i64 t365) := (kc_ BK368.out 2).trans rfl; have hfz26_0 := kf_ BK368.out 0; have hfz26_1 := kf_ BK368.out 1; have hfz26_2 := kf_ BK368.out 2; have hnb27 := NB362_0.out; have hnc27 := NB0_362.out; have hcz28_0 : w25.cell? ⟨gb362, 0, none⟩ = some (.string (⟨#[]⟩ : ByteArray)) := (kc_ BK362.out 0).trans rfl; have hcz28_1 : w25.cell? ⟨gb362, 1, none⟩ = some (.string (⟨#[]⟩ : ByteArray)) := (kc_ BK362.out 1).trans rfl; have hcz28_2 : w25.cell? ⟨gb362, 2, none⟩ = some (.int .i64 0) := (kc_ BK362.out 2).trans rfl; have hfz28_0 := kf_ BK362.out 0; have hfz28_1 := kf_ BK362.out 1; have hfz28_2 := kf_ BK362.out 2))
   refine bodyPost_ret (results_cell_row rfl _ _ gb362 31 #[.string t363, .string t372, .int .i64 t365] (0, 0) _ rfl (by (with_reducible repeat (first | apply kn_ | apply kd_ | apply ka_)); refine blk_put (cs := #[.string t363, .string t372, .int .i64 0]) ?_ 2 _ rfl; (with_reducible repeat (first | apply kn_ | apply kd_ | apply ka_)); refine blk_put (cs := #[.string t363, .string (⟨#[]⟩ : ByteArray), .int .i64 0]) ?_ 1 _ rfl; (with_reducible repeat (first | apply kn_ | apply kd_ | apply ka_)); refine blk_put (cs := #[.string (⟨#[]⟩ : ByteArray), .string (⟨#[]⟩ : ByteArray), .int .i64 0]) ?_ 0 _ rfl; (with_reducible repeat (first | apply kn_ | apply kd_ | apply ka_)); refine blk_far ?_ NB362_368.out _; (with_reducible repeat (first | apply kn_ | apply kd_ | apply ka_)); exact BK362.out) Tryd.underlying31 rfl (by kernel_rfl)) rfl ?_
   exact ⟨by first | rfl | (simp [*, errW_none, errW_some] <;> rfl), by repeat (with_reducible first | exact HI0.out | apply IsS79.alloc | apply IsS79.drewN | apply IsS79.drew | apply IsS79.set_1 | apply IsS79.set_2 | refine IsS79.far ?_ NB0_362.out _ | refine IsS79.far ?_ NB0_368.out _), by repeat (with_reducible first | exact HB.out | apply ba_ | apply bn_ | apply bd_ | refine bs_ ?_ (IsS79.ge HI0.out) | refine bs_ ?_ GE362.out | refine bs_ ?_ GE368.out), by repeat (with_reducible first | exact HK.out | apply KeepBut.set_ | apply keep_drewN | apply keep_drew | apply keep_alloc | refine keep_far ?_ GW362.out _ | refine keep_far ?_ GW368.out _)⟩
  ·rw [if_neg c15] at H
   have c15b0 : (t369 == 1) = false := beq_eq_false_iff_ne.mpr c15
   have c15b1 : (t369 != 1) = true := bne_iff_ne.mpr c15
   by_cases c29 : t369 = 2
   ·rw [if_pos c29] at H
    have c29b0 : (t369 == 2) = true := beq_iff_eq.mpr c29
    have c29b1 : (t369 != 2) = false := bne_eq_false_iff_eq.mpr c29
    clear c29
    by_cases c30 : t363.size + t364.size ≤ 9223372036854775807
    ·rw [if_pos c30] at H
     have c30b0 := eq_true c30
     have c30b1 : decide (t363.size + t364.size ≤ 9223372036854775807) = true := dt_ c30
     try have c30b2 : (9223372036854775807 < t363.size + t364.size) = False := eq_false (Nat.not_lt.2 c30)
     simp only [sj_, pj_] at H
     obtain ⟨rfl, rfl, rfl, rfl, rfl⟩ := H
     go_enter Tryd.func59, Tryd.ntmps59
     go_wp2_with (first | ((with_reducible refine gd_ (N := 2) rfl ?_); refine be_ ?hg (N := 2) ?hd (cs := #[.string (⟨#[]⟩ : ByteArray), .string (⟨#[]⟩ : ByteArray), .int .i64 0]) (t := 31) ?hr ?_; (case hd => rfl); (case hg => rfl); (case hr => go_simp; first | done | rfl); intro gb362 hg w31 hbox hb; replace HB := A0_ (bt_ (by repeat (with_reducible first | exact HB.out | apply ba_ | apply bn_ | apply bd_ | refine bs_ ?_ (IsS79.ge HI0.out))) hb); have BK362 := A0_ (hbox); have GW362 := A0_ ((by rw [hg]; exact (keep_size (w := w) (g := g) (row := none) (by repeat (with_reducible first | exact HK.out | apply KeepBut.set_ | apply keep_drewN | apply keep_drew | apply keep_alloc))) : w.heap.size ≤ gb362)); have GE362 := A0_ ((Nat.le_trans HW0.out (by rw [hg]; exact (keep_size (w := w) (g := g) (row := none) (by repeat (with_reducible first | exact HK.out | apply KeepBut.set_ | apply keep_drewN | apply keep_drew | apply keep_alloc))) : w.heap.size ≤ gb362) : w0.heap.size ≤ gb362)); replace HK := A0_ (KeepBut.trans (by repeat (with_reducible first | exact HK.out | apply KeepBut.set_ | apply keep_drewN | apply keep_drew | apply keep_alloc)) (KeepBut.of_below hb g none) (.inl rfl)); have NB0_362 := A0_ ((by rw [hg]; exact Nat.ne_of_lt (IsS79.lt (show IsS79 w0 _ g s0_0 s0_1 s0_2 from by repeat (with_reducible first | exact HI0.out | apply IsS79.alloc | apply IsS79.drewN | apply IsS79.drew | apply IsS79.set_1 | apply IsS79.set_2))) : g ≠ gb362)); have NB362_0 := A0_ ((by rw [hg]; exact Nat.ne_of_gt (IsS79.lt (show IsS79 w0 _ g s0_0 s0_1 s0_2 from by repeat (with_reducible first | exact HI0.out | apply IsS79.alloc | apply IsS79.drewN | apply IsS79.drew | apply IsS79.set_1 | apply IsS79.set_2))) : gb362 ≠ g)); replace HI0 := A0_ (IsS79.below (by repeat (with_reducible first | exact HI0.out | apply IsS79.alloc | apply IsS79.drewN | apply IsS79.drew | apply IsS79.set_1 | apply IsS79.set_2)) hb); clear hb hbox hg) | ((with_reducible refine gc_ (f := 64) rfl ?_); refine goesL_ (some 5) rfl rfl Tryd.func64 (by kernel_rfl) rfl #[.pointer (some ⟨g, 0, none⟩)] rfl (by (try simp only [ma_, mc_, mn_]); first | done | rfl | (simp only [ld_, lt_]; rfl)) ?_; (with_reducible refine (spec_l1Cur_log12.calls k g s0_0 s0_1 s0_2 t363 t364 t365 t366 t367 w0 _ ?side1 ?side2 A2.out).mono ?_); (case side1 => repeat (with_reducible first | exact HI0.out | apply IsS79.alloc | apply IsS79.drewN | apply IsS79.drew | apply IsS79.set_1 | apply IsS79.set_2 | refine IsS79.far ?_ NB0_362.out _)); (case side2 => repeat (with_reducible first | exact HB.out | apply ba_ | apply bn_ | apply bd_ | refine bs_ ?_ (IsS79.ge HI0.out) | refine bs_ ?_ GE362.out)); rintro e w32 ⟨rfl, hi, hb, hk⟩; refine ⟨_, rfl, ?_⟩; replace BK362 := A0_ (KeepBut.blk hk (g' := gb362) (o := .cells #[.string (⟨#[]⟩ : ByteArray), .string (⟨#[]⟩ : ByteArray), .int .i64 0] 31 (0, 0)) (by (with_reducible repeat (first | apply kn_ | apply kd_ | apply ka_)); exact BK362.out) NB362_0.out (by simp)); replace HK := A0_ (KeepBut.trans (by repeat (with_reducible first | exact HK.out | apply KeepBut.set_ | apply keep_drewN | apply keep_drew | apply keep_alloc | refine keep_far ?_ GW362.out _)) hk (.inl rfl)); replace HB := A0_ (hb); replace HI0 := A0_ (hi); (try clear hb); (try clear hk); (try clear hi)) | ((with_reducible refine gd_ (N := 3) rfl ?_); refine be_ ?hg (N := 3) ?hd (cs := #[.string (⟨#[]⟩ : ByteArray), .string (⟨#[]⟩ : ByteArray), .int .i64 0]) (t := 31) ?hr ?_; (case hd => rfl); (case hg => rfl); (case hr => go_simp; first | done | rfl); intro gb368 hg w33 hbox hb; replace HB := A0_ (bt_ (by repeat (with_reducible first | exact HB.out | apply ba_ | apply bn_ | apply bd_ | refine bs_ ?_ (IsS79.ge HI0.out) | refine bs_ ?_ GE362.out)) hb); have BK368 := A0_ (hbox); have GW368 := A0_ ((by rw [hg]; exact (keep_size (w := w) (g := g) (row := none) (by repeat (with_reducible first | exact HK.out | apply KeepBut.set_ | apply keep_drewN | apply keep_drew | apply keep_alloc | refine keep_far ?_ GW362.out _))) : w.heap.size ≤ gb368)); have GE368 := A0_ ((Nat.le_trans HW0.out (by rw [hg]; exact (keep_size (w := w) (g := g) (row := none) (by repeat (with_reducible first | exact HK.out | apply KeepBut.set_ | apply keep_drewN | apply keep_drew | apply keep_alloc | refine keep_far ?_ GW362.out _))) : w.heap.size ≤ gb368) : w0.heap.size ≤ gb368)); replace HK := A0_ (KeepBut.trans (by repeat (with_reducible first | exact HK.out | apply KeepBut.set_ | apply keep_drewN | apply keep_drew | apply keep_alloc | refine keep_far ?_ GW362.out _)) (KeepBut.of_below hb g none) (.inl rfl)); have NB362_368 := A0_ ((by rw [hg]; exact Nat.ne_of_lt (blk_lt (g := gb362) (o := .cells #[.string (⟨#[]⟩ : ByteArray), .string (⟨#[]⟩ : ByteArray), .int .i64 0] 31 (0, 0)) (by (with_reducible repeat (first | apply kn_ | apply kd_ | apply ka_)); exact BK362.out)) : gb362 ≠ gb368)); have NB368_362 := A0_ ((by rw [hg]; exact Nat.ne_of_gt (blk_lt (g := gb362) (o := .cells #[.string (⟨#[]⟩ : ByteArray), .string (⟨#[]⟩ : ByteArray), .int .i64 0] 31 (0, 0)) (by (with_reducible repeat (first | apply kn_ | apply kd_ | apply ka_)); exact BK362.out)) : gb368 ≠ gb362)); replace BK362 := A0_ (kb_ (g := gb362) (o := .cells #[.string (⟨#[]⟩ : ByteArray), .string (⟨#[]⟩ : ByteArray), .int .i64 0] 31 (0, 0)) (by (with_reducible repeat (first | apply kn_ | apply kd_ | apply ka_)); exact BK362.out) hb); have NB0_368 := A0_ ((by rw [hg]; exact Nat.ne_of_lt (IsS79.lt (show IsS79 w0 _ g s0_0 t366 t367 from by repeat (with_reducible first | exact HI0.out | apply IsS79.alloc | apply IsS79.drewN | apply IsS79.drew | apply IsS79.set_1 | apply IsS79.set_2 | refine IsS79.far ?_ NB0_362.out _))) : g ≠ gb368)); have NB368_0 := A0_ ((by rw [hg]; exact Nat.ne_of_gt (IsS79.lt (show IsS79 w0 _ g s0_0 t366 t367 from by repeat (with_reducible first | exact HI0.out | apply IsS79.alloc | apply IsS79.drewN | apply IsS79.drew | apply IsS79.set_1 | apply IsS79.set_2 | refine IsS79.far ?_ NB0_362.out _))) : gb368 ≠ g)); replace HI0 := A0_ (IsS79.below (by repeat (with_reducible first | exact HI0.out | apply IsS79.alloc | apply IsS79.drewN | apply IsS79.drew | apply IsS79.set_1 | apply IsS79.set_2 | refine IsS79.far ?_ NB0_362.out _)) hb); clear hb hbox hg; have hnb34 := NB368_362.out; have hnc34 := NB362_368.out; have hnb35 := NB368_0.out; have hnc35 := NB0_368.out; have hcz36_0 : w33.cell? ⟨gb368, 0, none⟩ = some (.string (⟨#[]⟩ : ByteArray)) := (kc_ BK368.out 0).trans rfl; have hcz36_1 : w33.cell? ⟨gb368, 1, none⟩ = some (.string (⟨#[]⟩ : ByteArray)) := (kc_ BK368.out 1).trans rfl; have hcz36_2 : w33.cell? ⟨gb368, 2, none⟩ = some (.int .i64 0) := (kc_ BK368.out 2).trans rfl; have hfz36_0 := kf_ BK368.out 0; have hfz36_1 := kf_ BK368.out 1; have hfz36_2 := kf_ BK368.out 2) | ((with_reducible refine gc_ (f := 61) rfl ?_); refine goesL_ (some 7) rfl rfl Tryd.func61 (by kernel_rfl) rfl #[.pointer (some ⟨g, 0, none⟩), .int .i64 24] rfl (by (try simp only [ma_, mc_, mn_]); first | done | rfl | (simp only [ld_, lt_]; rfl)) ?_; (with_reducible refine (spec_l1Cur_pick.calls g s0_0 t366 t367 24 t369 t370 t371 w0 _ ?side1 ?side2 A3.out).mono ?_); (case side1 => repeat (with_reducible first | exact HI0.out | apply IsS79.alloc | apply IsS79.drewN | apply IsS79.drew | apply IsS79.set_1 | apply IsS79.set_2 | refine IsS79.far ?_ NB0_362.out _ | refine IsS79.far ?_ NB0_368.out _)); (case side2 => repeat (with_reducible first | exact HB.out | apply ba_ | apply bn_ | apply bd_ | refine bs_ ?_ (IsS79.ge HI0.out) | refine bs_ ?_ GE362.out | refine bs_ ?_ GE368.out)); rintro e w37 ⟨rfl, hi, hb, hk⟩; refine ⟨_, rfl, ?_⟩; replace BK362 := A0_ (KeepBut.blk hk (g' := gb362) (o := .cells #[.string (⟨#[]⟩ : ByteArray), .string (⟨#[]⟩ : ByteArray), .int .i64 0] 31 (0, 0)) (by (with_reducible repeat (first | apply kn_ | apply kd_ | apply ka_)); refine blk_far ?_ NB362_368.out _; (with_reducible repeat (first | apply kn_ | apply kd_ | apply ka_)); refine blk_far ?_ NB362_368.out _; (with_reducible repeat (first | apply kn_ | apply kd_ | apply ka_)); refine blk_far ?_ NB362_368.out _; (with_reducible repeat (first | apply kn_ | apply kd_ | apply ka_)); exact BK362.out) NB362_0.out (by simp)); replace BK368 := A0_ (KeepBut.blk hk (g' := gb368) (o := .cells #[.string t363, .string t364, .int .i64 t365] 31 (0, 0)) (by (with_reducible repeat (first | apply kn_ | apply kd_ | apply ka_)); refine blk_put (cs := #[.string t363, .string t364, .int .i64 0]) ?_ 2 _ rfl; (with_reducible repeat (first | apply kn_ | apply kd_ | apply ka_)); refine blk_put (cs := #[.string t363, .string (⟨#[]⟩ : ByteArray), .int .i64 0]) ?_ 1 _ rfl; (with_reducible repeat (first | apply kn_ | apply kd_ | apply ka_)); refine blk_put (cs := #[.string (⟨#[]⟩ : ByteArray), .string (⟨#[]⟩ : ByteArray), .int .i64 0]) ?_ 0 _ rfl; (with_reducible repeat (first | apply kn_ | apply kd_ | apply ka_)); exact BK368.out) NB368_0.out (by simp)); replace HK := A0_ (KeepBut.trans (by repeat (with_reducible first | exact HK.out | apply KeepBut.set_ | apply keep_drewN | apply keep_drew | apply keep_alloc | refine keep_far ?_ GW362.out _ | refine keep_far ?_ GW368.out _)) hk (.inl rfl)); replace HB := A0_ (hb); replace HI0 := A0_ (hi); (try clear hb); (try clear hk); (try clear hi); have hcz38_0 : w37.cell? ⟨gb368, 0, none⟩ = some (.string t363) := (kc_ BK368.out 0).trans rfl; have hcz38_1 : w37.cell? ⟨gb368, 1, none⟩ = some (.string t364) := (kc_ BK368.out 1).trans rfl; have hcz38_2 : w37.cell? ⟨gb368, 2, none⟩ = some (.int .i64 t365) := (kc_ BK368.out 2).trans rfl; have hfz38_0 := kf_ BK368.out 0; have hfz38_1 := kf_ BK368.out 1; have hfz38_2 := kf_ BK368.out 2; have hnb39 := NB362_0.out; have hnc39 := NB0_362.out; have hcz40_0 : w37.cell? ⟨gb362, 0, none⟩ = some (.string (⟨#[]⟩ : ByteArray)) := (kc_ BK362.out 0).trans rfl; have hcz40_1 : w37.cell? ⟨gb362, 1, none⟩ = some (.string (⟨#[]⟩ : ByteArray)) := (kc_ BK362.out 1).trans rfl; have hcz40_2 : w37.cell? ⟨gb362, 2, none⟩ = some (.int .i64 0) := (kc_ BK362.out 2).trans rfl; have hfz40_0 := kf_ BK362.out 0; have hfz40_1 := kf_ BK362.out 1; have hfz40_2 := kf_ BK362.out 2))
     refine bodyPost_ret (results_cell_row rfl _ _ gb362 31 #[.string (t363 ++ t364), .string t364, .int .i64 t365] (0, 0) _ rfl (by (with_reducible repeat (first | apply kn_ | apply kd_ | apply ka_)); refine blk_put (cs := #[.string (t363 ++ t364), .string t364, .int .i64 0]) ?_ 2 _ rfl; (with_reducible repeat (first | apply kn_ | apply kd_ | apply ka_)); refine blk_put (cs := #[.string (t363 ++ t364), .string (⟨#[]⟩ : ByteArray), .int .i64 0]) ?_ 1 _ rfl; (with_reducible repeat (first | apply kn_ | apply kd_ | apply ka_)); refine blk_put (cs := #[.string (⟨#[]⟩ : ByteArray), .string (⟨#[]⟩ : ByteArray), .int .i64 0]) ?_ 0 _ rfl; (with_reducible repeat (first | apply kn_ | apply kd_ | apply ka_)); refine blk_far ?_ NB362_368.out _; (with_reducible repeat (first | apply kn_ | apply kd_ | apply ka_)); exact BK362.out) Tryd.underlying31 rfl (by kernel_rfl)) rfl ?_
     exact ⟨by first | rfl | (simp [*, errW_none, errW_some] <;> rfl), by repeat (with_reducible first | exact HI0.out | apply IsS79.alloc | apply IsS79.drewN | apply IsS79.drew | apply IsS79.set_1 | apply IsS79.set_2 | refine IsS79.far ?_ NB0_362.out _ | refine IsS79.far ?_ NB0_368.out _), by repeat (with_reducible first | exact HB.out | apply ba_ | apply bn_ | apply bd_ | refine bs_ ?_ (IsS79.ge HI0.out) | refine bs_ ?_ GE362.out | refine bs_ ?_ GE368.out), by repeat (with_reducible first | exact HK.out | apply KeepBut.set_ | apply keep_drewN | apply keep_drew | apply keep_alloc | refine keep_far ?_ GW362.out _ | refine keep_far ?_ GW368.out _)⟩
    ·rw [if_neg c30] at H
     exact absurd H (by simp)
   ·rw [if_neg c29] at H
    have c29b0 : (t369 == 2) = false := beq_eq_false_iff_ne.mpr c29
    have c29b1 : (t369 != 2) = true := bne_iff_ne.mpr c29
    simp only [sj_, pj_] at H
    obtain ⟨rfl, rfl, rfl, rfl, rfl⟩ := H
    go_enter Tryd.func59, Tryd.ntmps59
    go_wp2_with (first | ((with_reducible refine gd_ (N := 2) rfl ?_); refine be_ ?hg (N := 2) ?hd (cs := #[.string (⟨#[]⟩ : ByteArray), .string (⟨#[]⟩ : ByteArray), .int .i64 0]) (t := 31) ?hr ?_; (case hd => rfl); (case hg => rfl); (case hr => go_simp; first | done | rfl); intro gb362 hg w41 hbox hb; replace HB := A0_ (bt_ (by repeat (with_reducible first | exact HB.out | apply ba_ | apply bn_ | apply bd_ | refine bs_ ?_ (IsS79.ge HI0.out))) hb); have BK362 := A0_ (hbox); have GW362 := A0_ ((by rw [hg]; exact (keep_size (w := w) (g := g) (row := none) (by repeat (with_reducible first | exact HK.out | apply KeepBut.set_ | apply keep_drewN | apply keep_drew | apply keep_alloc))) : w.heap.size ≤ gb362)); have GE362 := A0_ ((Nat.le_trans HW0.out (by rw [hg]; exact (keep_size (w := w) (g := g) (row := none) (by repeat (with_reducible first | exact HK.out | apply KeepBut.set_ | apply keep_drewN | apply keep_drew | apply keep_alloc))) : w.heap.size ≤ gb362) : w0.heap.size ≤ gb362)); replace HK := A0_ (KeepBut.trans (by repeat (with_reducible first | exact HK.out | apply KeepBut.set_ | apply keep_drewN | apply keep_drew | apply keep_alloc)) (KeepBut.of_below hb g none) (.inl rfl)); have NB0_362 := A0_ ((by rw [hg]; exact Nat.ne_of_lt (IsS79.lt (show IsS79 w0 _ g s0_0 s0_1 s0_2 from by repeat (with_reducible first | exact HI0.out | apply IsS79.alloc | apply IsS79.drewN | apply IsS79.drew | apply IsS79.set_1 | apply IsS79.set_2))) : g ≠ gb362)); have NB362_0 := A0_ ((by rw [hg]; exact Nat.ne_of_gt (IsS79.lt (show IsS79 w0 _ g s0_0 s0_1 s0_2 from by repeat (with_reducible first | exact HI0.out | apply IsS79.alloc | apply IsS79.drewN | apply IsS79.drew | apply IsS79.set_1 | apply IsS79.set_2))) : gb362 ≠ g)); replace HI0 := A0_ (IsS79.below (by repeat (with_reducible first | exact HI0.out | apply IsS79.alloc | apply IsS79.drewN | apply IsS79.drew | apply IsS79.set_1 | apply IsS79.set_2)) hb); clear hb hbox hg) | ((with_reducible refine gc_ (f := 64) rfl ?_); refine goesL_ (some 5) rfl rfl Tryd.func64 (by kernel_rfl) rfl #[.pointer (some ⟨g, 0, none⟩)] rfl (by (try simp only [ma_, mc_, mn_]); first | done | rfl | (simp only [ld_, lt_]; rfl)) ?_; (with_reducible refine (spec_l1Cur_log12.calls k g s0_0 s0_1 s0_2 t363 t364 t365 t366 t367 w0 _ ?side1 ?side2 A2.out).mono ?_); (case side1 => repeat (with_reducible first | exact HI0.out | apply IsS79.alloc | apply IsS79.drewN | apply IsS79.drew | apply IsS79.set_1 | apply IsS79.set_2 | refine IsS79.far ?_ NB0_362.out _)); (case side2 => repeat (with_reducible first | exact HB.out | apply ba_ | apply bn_ | apply bd_ | refine bs_ ?_ (IsS79.ge HI0.out) | refine bs_ ?_ GE362.out)); rintro e w42 ⟨rfl, hi, hb, hk⟩; refine ⟨_, rfl, ?_⟩; replace BK362 := A0_ (KeepBut.blk hk (g' := gb362) (o := .cells #[.string (⟨#[]⟩ : ByteArray), .string (⟨#[]⟩ : ByteArray), .int .i64 0] 31 (0, 0)) (by (with_reducible repeat (first | apply kn_ | apply kd_ | apply ka_)); exact BK362.out) NB362_0.out (by simp)); replace HK := A0_ (KeepBut.trans (by repeat (with_reducible first | exact HK.out | apply KeepBut.set_ | apply keep_drewN | apply keep_drew | apply keep_alloc | refine keep_far ?_ GW362.out _)) hk (.inl rfl)); replace HB := A0_ (hb); replace HI0 := A0_ (hi); (try clear hb); (try clear hk); (try clear hi)) | ((with_reducible refine gd_ (N := 3) rfl ?_); refine be_ ?hg (N := 3) ?hd (cs := #[.string (⟨#[]⟩ : ByteArray), .string (⟨#[]⟩ : ByteArray), .int .i64 0]) (t := 31) ?hr ?_; (case hd => rfl); (case hg => rfl); (case hr => go_simp; first | done | rfl); intro gb368 hg w43 hbox hb; replace HB := A0_ (bt_ (by repeat (with_reducible first | exact HB.out | apply ba_ | apply bn_ | apply bd_ | refine bs_ ?_ (IsS79.ge HI0.out) | refine bs_ ?_ GE362.out)) hb); have BK368 := A0_ (hbox); have GW368 := A0_ ((by rw [hg]; exact (keep_size (w := w) (g := g) (row := none) (by repeat (with_reducible first | exact HK.out | apply KeepBut.set_ | apply keep_drewN | apply keep_drew | apply keep_alloc | refine keep_far ?_ GW362.out _))) : w.heap.size ≤ gb368)); have GE368 := A0_ ((Nat.le_trans HW0.out (by rw [hg]; exact (keep_size (w := w) (g := g) (row := none) (by repeat (with_reducible first | exact HK.out | apply KeepBut.set_ | apply keep_drewN | apply keep_drew | apply keep_alloc | refine keep_far ?_ GW362.out _))) : w.heap.size ≤ gb368) : w0.heap.size ≤ gb368)); replace HK := A0_ (KeepBut.trans (by repeat (with_reducible first | exact HK.out | apply KeepBut.set_ | apply keep_drewN | apply keep_drew | apply keep_alloc | refine keep_far ?_ GW362.out _)) (KeepBut.of_below hb g none) (.inl rfl)); have NB362_368 := A0_ ((by rw [hg]; exact Nat.ne_of_lt (blk_lt (g := gb362) (o := .cells #[.string (⟨#[]⟩ : ByteArray), .string (⟨#[]⟩ : ByteArray), .int .i64 0] 31 (0, 0)) (by (with_reducible repeat (first | apply kn_ | apply kd_ | apply ka_)); exact BK362.out)) : gb362 ≠ gb368)); have NB368_362 := A0_ ((by rw [hg]; exact Nat.ne_of_gt (blk_lt (g := gb362) (o := .cells #[.string (⟨#[]⟩ : ByteArray), .string (⟨#[]⟩ : ByteArray), .int .i64 0] 31 (0, 0)) (by (with_reducible repeat (first | apply kn_ | apply kd_ | apply ka_)); exact BK362.out)) : gb368 ≠ gb362)); replace BK362 := A0_ (kb_ (g := gb362) (o := .cells #[.string (⟨#[]⟩ : ByteArray), .string (⟨#[]⟩ : ByteArray), .int .i64 0] 31 (0, 0)) (by (with_reducible repeat (first | apply kn_ | apply kd_ | apply ka_)); exact BK362.out) hb); have NB0_368 := A0_ ((by rw [hg]; exact Nat.ne_of_lt (IsS79.lt (show IsS79 w0 _ g s0_0 t366 t367 from by repeat (with_reducible first | exact HI0.out | apply IsS79.alloc | apply IsS79.drewN | apply IsS79.drew | apply IsS79.set_1 | apply IsS79.set_2 | refine IsS79.far ?_ NB0_362.out _))) : g ≠ gb368)); have NB368_0 := A0_ ((by rw [hg]; exact Nat.ne_of_gt (IsS79.lt (show IsS79 w0 _ g s0_0 t366 t367 from by repeat (with_reducible first | exact HI0.out | apply IsS79.alloc | apply IsS79.drewN | apply IsS79.drew | apply IsS79.set_1 | apply IsS79.set_2 | refine IsS79.far ?_ NB0_362.out _))) : gb368 ≠ g)); replace HI0 := A0_ (IsS79.below (by repeat (with_reducible first | exact HI0.out | apply IsS79.alloc | apply IsS79.drewN | apply IsS79.drew | apply IsS79.set_1 | apply IsS79.set_2 | refine IsS79.far ?_ NB0_362.out _)) hb); clear hb hbox hg; have hnb44 := NB368_362.out; have hnc44 := NB362_368.out; have hnb45 := NB368_0.out; have hnc45 := NB0_368.out; have hcz46_0 : w43.cell? ⟨gb368, 0, none⟩ = some (.string (⟨#[]⟩ : ByteArray)) := (kc_ BK368.out 0).trans rfl; have hcz46_1 : w43.cell? ⟨gb368, 1, none⟩ = some (.string (⟨#[]⟩ : ByteArray)) := (kc_ BK368.out 1).trans rfl; have hcz46_2 : w43.cell? ⟨gb368, 2, none⟩ = some (.int .i64 0) := (kc_ BK368.out 2).trans rfl; have hfz46_0 := kf_ BK368.out 0; have hfz46_1 := kf_ BK368.out 1; have hfz46_2 := kf_ BK368.out 2) | ((with_reducible refine gc_ (f := 61) rfl ?_); refine goesL_ (some 7) rfl rfl Tryd.func61 (by kernel_rfl) rfl #[.pointer (some ⟨g, 0, none⟩), .int .i64 24] rfl (by (try simp only [ma_, mc_, mn_]); first | done | rfl | (simp only [ld_, lt_]; rfl)) ?_; (with_reducible refine (spec_l1Cur_pick.calls g s0_0 t366 t367 24 t369 t370 t371 w0 _ ?side1 ?side2 A3.out).mono ?_); (case side1 => repeat (with_reducible first | exact HI0.out | apply IsS79.alloc | apply IsS79.drewN | apply IsS79.drew | apply IsS79.set_1 | apply IsS79.set_2 | refine IsS79.far ?_ NB0_362.out _ | refine IsS79.far ?_ NB0_368.out _)); (case side2 => repeat (with_reducible first | exact HB.out | apply ba_ | apply bn_ | apply bd_ | refine bs_ ?_ (IsS79.ge HI0.out) | refine bs_ ?_ GE362.out | refine bs_ ?_ GE368.out)); rintro e w47 ⟨rfl, hi, hb, hk⟩; refine ⟨_, rfl, ?_⟩; replace BK362 := A0_ (KeepBut.blk hk (g' := gb362) (o := .cells #[.string (⟨#[]⟩ : ByteArray), .string (⟨#[]⟩ : ByteArray), .int .i64 0] 31 (0, 0)) (by (with_reducible repeat (first | apply kn_ | apply kd_ | apply ka_)); refine blk_far ?_ NB362_368.out _; (with_reducible repeat (first | apply kn_ | apply kd_ | apply ka_)); refine blk_far ?_ NB362_368.out _; (with_reducible repeat (first | apply kn_ | apply kd_ | apply ka_)); refine blk_far ?_ NB362_368.out _; (with_reducible repeat (first | apply kn_ | apply kd_ | apply ka_)); exact BK362.out) NB362_0.out (by simp)); replace BK368 := A0_ (KeepBut.blk hk (g' := gb368) (o := .cells #[.string t363, .string t364, .int .i64 t365] 31 (0, 0)) (by (with_reducible repeat (first | apply kn_ | apply kd_ | apply ka_)); refine blk_put (cs := #[.string t363, .string t364, .int .i64 0]) ?_ 2 _ rfl; (with_reducible repeat (first | apply kn_ | apply kd_ | apply ka_)); refine blk_put (cs := #[.string t363, .string (⟨#[]⟩ : ByteArray), .int .i64 0]) ?_ 1 _ rfl; (with_reducible repeat (first | apply kn_ | apply kd_ | apply ka_)); refine blk_put (cs := #[.string (⟨#[]⟩ : ByteArray), .string (⟨#[]⟩ : ByteArray), .int .i64 0]) ?_ 0 _ rfl; (with_reducible repeat (first | apply kn_ | apply kd_ | apply ka_)); exact BK368.out) NB368_0.out (by simp)); replace HK := A0_ (KeepBut.trans (by repeat (with_reducible first | exact HK.out | apply KeepBut.set_ | apply keep_drewN | apply keep_drew | apply keep_alloc | refine keep_far ?_ GW362.out _ | refine keep_far ?_ GW368.out _)) hk (.inl rfl)); replace HB := A0_ (hb); replace HI0 := A0_ (hi); (try clear hb); (try clear hk); (try clear hi); have hcz48_0 : w47.cell? ⟨gb368, 0, none⟩ = some (.string t363) := (kc_ BK368.out 0).trans rfl; have hcz48_1 : w47.cell? ⟨gb368, 1, none⟩ = some (.string t364) := (kc_ BK368.out 1).trans rfl; have hcz48_2 : w47.cell? ⟨gb368, 2, none⟩ = some (.int .i64 t365) := (kc_ BK368.out 2).trans rfl; have hfz48_0 := kf_ BK368.out 0; have hfz48_1 := kf_ BK368.out 1; have hfz48_2 := kf_ BK368.out 2; have hnb49 := NB362_0.out; have hnc49 := NB0_362.out; have hcz50_0 : w47.cell? ⟨gb362, 0, none⟩ = some (.string (⟨#[]⟩ : ByteArray)) := (kc_ BK362.out 0).trans rfl; have hcz50_1 : w47.cell? ⟨gb362, 1, none⟩ = some (.string (⟨#[]⟩ : ByteArray)) := (kc_ BK362.out 1).trans rfl; have hcz50_2 : w47.cell? ⟨gb362, 2, none⟩ = some (.int .i64 0) := (kc_ BK362.out 2).trans rfl; have hfz50_0 := kf_ BK362.out 0; have hfz50_1 := kf_ BK362.out 1; have hfz50_2 := kf_ BK362.out 2))
    refine bodyPost_ret (results_cell_row rfl _ _ gb362 31 #[.string t363, .string t364, .int .i64 t365] (0, 0) _ rfl (by (with_reducible repeat (first | apply kn_ | apply kd_ | apply ka_)); refine blk_put (cs := #[.string t363, .string t364, .int .i64 0]) ?_ 2 _ rfl; (with_reducible repeat (first | apply kn_ | apply kd_ | apply ka_)); refine blk_put (cs := #[.string t363, .string (⟨#[]⟩ : ByteArray), .int .i64 0]) ?_ 1 _ rfl; (with_reducible repeat (first | apply kn_ | apply kd_ | apply ka_)); refine blk_put (cs := #[.string (⟨#[]⟩ : ByteArray), .string (⟨#[]⟩ : ByteArray), .int .i64 0]) ?_ 0 _ rfl; (with_reducible repeat (first | apply kn_ | apply kd_ | apply ka_)); exact BK362.out) Tryd.underlying31 rfl (by kernel_rfl)) rfl ?_
    exact ⟨by first | rfl | (simp [*, errW_none, errW_some] <;> rfl), by repeat (with_reducible first | exact HI0.out | apply IsS79.alloc | apply IsS79.drewN | apply IsS79.drew | apply IsS79.set_1 | apply IsS79.set_2 | refine IsS79.far ?_ NB0_362.out _ | refine IsS79.far ?_ NB0_368.out _), by repeat (with_reducible first | exact HB.out | apply ba_ | apply bn_ | apply bd_ | refine bs_ ?_ (IsS79.ge HI0.out) | refine bs_ ?_ GE362.out | refine bs_ ?_ GE368.out), by repeat (with_reducible first | exact HK.out | apply KeepBut.set_ | apply keep_drewN | apply keep_drew | apply keep_alloc | refine keep_far ?_ GW362.out _ | refine keep_far ?_ GW368.out _)⟩

def spec_DrawIsValidLog.f (k : Nat) (l0 : List Int) : Option (ByteArray × ByteArray × Int) := (spec_l1Cur_anyLog.f k l0 0 0).bind fun bt392 => (some (bt392.1, bt392.2.1, bt392.2.2.1))
theorem spec_DrawIsValidLog.mono : ∀ a0 k, LeO (spec_DrawIsValidLog.f k a0) (spec_DrawIsValidLog.f (k + 1) a0) := by
 intro a0 k
 unfold spec_DrawIsValidLog.f
 repeat' first
   | (with_reducible exact spec_l1Cur_anyLog.mono _ _ _ _)
   | (with_reducible exact LeO.refl _)
   | (with_reducible exact LeO.none _)
   | (with_reducible refine LeO.ite ?_ ?_)
   | (with_reducible refine LeO.bind ?_ (fun _ => ?_))
theorem spec_DrawIsValidLog.calls (k : Nat) (A0 : Option Addr) (c0 : Nat) (l0 : List Int) (r1 : ByteArray) (r2 : ByteArray) (r3 : Int) (w : World) (hr0 : Kd.C (Kd.int .u8) w A0 l0.length l0) (hc0 : l0.length ≤ c0) (h : spec_DrawIsValidLog.f k l0 = some (r1, r2, r3)) :
  Calls Tryd.prog 38 #[.slice A0 l0.length c0] w fun e w' => e = .returned (.agg #[.string r1, .string r2, .int .i64 r3]) ∧ Below w.heap.size w w' := by
 have hu79 := Tryd.underlying79
 have HB := A0_ (Below.refl w.heap.size w)
 have H : ((spec_l1Cur_anyLog.f k l0 0 0).bind fun bt392 => (some (bt392.1, bt392.2.1, bt392.2.2.1))) = some (r1, r2, r3) := h
 clear h
 replace H := ob_.mp H
 obtain ⟨⟨t392, t393, t394, t395, t396⟩, A20, H⟩ := H
 replace H : (some (t392, t393, t394)) = some (r1, r2, r3) := H
 have A2 := A0_ A20
 clear A20
 simp only [sj_, pj_] at H
 obtain ⟨rfl, rfl, rfl⟩ := H
 go_enter Tryd.func38, Tryd.ntmps38
 go_wp2_with (first | ((with_reducible refine gd_ (N := 2) rfl ?_); refine be_ ?hg (N := 2) ?hd (cs := #[.string (⟨#[]⟩ : ByteArray), .string (⟨#[]⟩ : ByteArray), .int .i64 0]) (t := 31) ?hr ?_; (case hd => rfl); (case hg => rfl); (case hr => go_simp; first | done | rfl); intro gb391 hg w3 hbox hb; have n2_ := A0_ (bt_ (by repeat (with_reducible first | exact HB.out | apply ba_ | apply bn_ | apply bd_)) hb); have n3_ := A0_ (hbox); have n4_ := A0_ ((by rw [hg]; exact (bz_ (by repeat (with_reducible first | exact HB.out | apply ba_ | apply bn_ | apply bd_))) : w.heap.size ≤ gb391)); clear HB; have HB := n2_; have BK391 := n3_; have GW391 := n4_; have GE391 := n4_; clear n2_ n3_ n4_ hb hbox hg) | ((with_reducible refine gd_ (N := 6) rfl ?_); refine be_ ?hg (N := 6) ?hd (cs := #[.slice A0 l0.length c0, .int .i64 0, .int .u64 0]) (t := 79) ?hr ?_; (case hd => rfl); (case hg => rfl); (case hr => go_simp; first | done | rfl); intro g hg wB hbox hb; have n0_ := A0_ (show IsS79 w wB g l0 0 0 from ⟨A0, c0, hbox, (by rw [hg]; exact (bz_ (by repeat (with_reducible first | exact HB.out | apply ba_ | apply bn_ | apply bd_)))), hr0⟩); have n1_ := A0_ (KeepBut.refl wB g none); have n2_ := A0_ (bt_ (by repeat (with_reducible first | exact HB.out | apply ba_ | apply bn_ | apply bd_)) hb); have HW0 := A0_ (Below.size n2_.out); have m391_ := A0_ (kb_ (g := gb391) (o := .cells #[.string (⟨#[]⟩ : ByteArray), .string (⟨#[]⟩ : ByteArray), .int .i64 0] 31 (0, 0)) (by (with_reducible repeat (first | apply kn_ | apply kd_ | apply ka_)); exact BK391.out) hb); have NB0_391 := A0_ ((by rw [hg]; exact Nat.ne_of_gt (blk_lt (g := gb391) (o := .cells #[.string (⟨#[]⟩ : ByteArray), .string (⟨#[]⟩ : ByteArray), .int .i64 0] 31 (0, 0)) (by (with_reducible repeat (first | apply kn_ | apply kd_ | apply ka_)); exact BK391.out)) : g ≠ gb391)); have NB391_0 := A0_ (Ne.symm NB0_391.out); clear HB BK391; have HI0 := n0_; have HK := n1_; have HB := n2_; have BK391 := m391_; clear m391_ n0_ n1_ n2_ hb hbox hg) | ((with_reducible refine gc_ (f := 59) rfl ?_); refine goesL_ (some 8) rfl rfl Tryd.func59 (by kernel_rfl) rfl #[.pointer (some ⟨g, 0, none⟩)] rfl (by (try simp only [ma_, mc_, mn_]); first | done | rfl | (simp only [ld_, lt_]; rfl)) ?_; (with_reducible refine (spec_l1Cur_anyLog.calls k g l0 0 0 t392 t393 t394 t395 t396 w _ ?side1 ?side2 A2.out).mono ?_); (case side1 => repeat (with_reducible first | exact HI0.out | apply IsS79.alloc | apply IsS79.drewN | apply IsS79.drew | apply IsS79.set_1 | apply IsS79.set_2 | refine IsS79.far ?_ NB0_391.out _)); (case side2 => repeat (with_reducible first | exact HB.out | apply ba_ | apply bn_ | apply bd_ | refine bs_ ?_ (IsS79.ge HI0.out) | refine bs_ ?_ GE391.out)); rintro e w4 ⟨rfl, hi, hb, hk⟩; refine ⟨_, rfl, ?_⟩; replace BK391 := A0_ (KeepBut.blk hk (g' := gb391) (o := .cells #[.string (⟨#[]⟩ : ByteArray), .string (⟨#[]⟩ : ByteArray), .int .i64 0] 31 (0, 0)) (by (with_reducible repeat (first | apply kn_ | apply kd_ | apply ka_)); exact BK391.out) NB391_0.out (by simp)); replace HK := A0_ (KeepBut.trans (by repeat (with_reducible first | exact HK.out | apply KeepBut.set_ | apply keep_drewN | apply keep_drew | apply keep_alloc | refine keep_far ?_ GW391.out _)) hk (.inl rfl)); replace HB := A0_ (hb); replace HI0 := A0_ (hi); (try clear hb); (try clear hk); (try clear hi); have hnb5 := NB391_0.out; have hnc5 := NB0_391.out; have hcz6_0 : w4.cell? ⟨gb391, 0, none⟩ = some (.string (⟨#[]⟩ : ByteArray)) := (kc_ BK391.out 0).trans rfl; have hcz6_1 : w4.cell? ⟨gb391, 1, none⟩ = some (.string (⟨#[]⟩ : ByteArray)) := (kc_ BK391.out 1).trans rfl; have hcz6_2 : w4.cell? ⟨gb391, 2, none⟩ = some (.int .i64 0) := (kc_ BK391.out 2).trans rfl; have hfz6_0 := kf_ BK391.out 0; have hfz6_1 := kf_ BK391.out 1; have hfz6_2 := kf_ BK391.out 2))
 refine bodyPost_ret (results_cell_row rfl _ _ gb391 31 #[.string t392, .string t393, .int .i64 t394] (0, 0) _ rfl (by (with_reducible repeat (first | apply kn_ | apply kd_ | apply ka_)); refine blk_put (cs := #[.string t392, .string t393, .int .i64 0]) ?_ 2 _ rfl; (with_reducible repeat (first | apply kn_ | apply kd_ | apply ka_)); refine blk_put (cs := #[.string t392, .string (⟨#[]⟩ : ByteArray), .int .i64 0]) ?_ 1 _ rfl; (with_reducible repeat (first | apply kn_ | apply kd_ | apply ka_)); refine blk_put (cs := #[.string (⟨#[]⟩ : ByteArray), .string (⟨#[]⟩ : ByteArray), .int .i64 0]) ?_ 0 _ rfl; (with_reducible repeat (first | apply kn_ | apply kd_ | apply ka_)); exact BK391.out) Tryd.underlying31 rfl (by kernel_rfl)) rfl ?_
 exact ⟨by first | rfl | (simp [*, errW_none, errW_some] <;> rfl), by repeat (with_reducible first | exact HB.out | apply ba_ | apply bn_ | apply bd_ | refine bs_ ?_ (IsS79.ge HI0.out) | refine bs_ ?_ GE391.out)⟩


end Go.Proofs.YtphcagjmpaajmaaDoor.QFnLogs
-- squeezed
