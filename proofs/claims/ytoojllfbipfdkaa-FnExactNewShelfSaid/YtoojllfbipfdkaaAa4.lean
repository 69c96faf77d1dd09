/- Walks of functions of the translated code and plain laws of what they compute: for the statement's proof, in YtoojllfbipfdkaaAaLaw. -/
import Derived.Test.YtoojllfbipfdkaaAa3
namespace Go.Proofs.Ytoojllfbipfdkaa.L
set_option maxHeartbeats 8000000
set_option maxRecDepth 100000
open Go.RowKit Go.Proofs.YtoojllfbipfdkaaW.PrintWords Go.Proofs.YtoojllfbipfdkaaW.PrintLast Go.Proofs.YtoojllfbipfdkaaW.PrintMore Go.Proofs.Ytoojllfbipfdkaa.Fn
attribute [local go_sem] max2_int min2_int max_two min_two max_three min_three max_four min_four
set_option linter.unusedVariables false
set_option linter.unusedSimpArgs false
def slices_BinarySearchFunc_Part_Part_Part.l0 : Nat → List (S49) → (Int → Int → ByteArray → Int → Int → ByteArray → Option Int) → Int → Int → Int → Int → Int → ByteArray → Option (Int × Bool)
 | 0, _, _, _, _, _, _, _, _ => none
 | k + 1, x0, x2, x8, x9, x10, x102000, x102001, x102002 => if x9 < x10 then (if 0 ≤ (wrap64 ((IntKind.u64.wrap (wrap64 (x9 + x10))) / 2)) then (if (wrap64 ((IntKind.u64.wrap (wrap64 (x9 + x10))) / 2)) < (x0.length : Int) then ((x2 ((rd_T49 x0 (wrap64 ((IntKind.u64.wrap (wrap64 (x9 + x10))) / 2))).f0) ((rd_T49 x0 (wrap64 ((IntKind.u64.wrap (wrap64 (x9 + x10))) / 2))).f1) ((rd_T49 x0 (wrap64 ((IntKind.u64.wrap (wrap64 (x9 + x10))) / 2))).f2) x102000 x102001 x102002).bind fun t103 => (if t103 < 0 then (slices_BinarySearchFunc_Part_Part_Part.l0 k x0 x2 x8 (wrap64 ((wrap64 ((IntKind.u64.wrap (wrap64 (x9 + x10))) / 2)) + 1)) x10 x102000 x102001 x102002) else (slices_BinarySearchFunc_Part_Part_Part.l0 k x0 x2 x8 x9 (wrap64 ((IntKind.u64.wrap (wrap64 (x9 + x10))) / 2)) x102000 x102001 x102002))) else (none)) else (none)) else (if x9 < x8 then (if 0 ≤ x9 then (if x9 < (x0.length : Int) then ((x2 ((rd_T49 x0 x9).f0) ((rd_T49 x0 x9).f1) ((rd_T49 x0 x9).f2) x102000 x102001 x102002).bind fun t105 => (some (x9, (t105 == 0)))) else (none)) else (none)) else (some (x9, false)))
def slices_BinarySearchFunc_Part_Part_Part.f (k : Nat) (l0 : List (S49)) (a1_0 : Int) (a1_1 : Int) (a1_2 : ByteArray) (a2 : (Int → Int → ByteArray → Int → Int → ByteArray → Option Int)) : Option (Int × Bool) := slices_BinarySearchFunc_Part_Part_Part.l0 k l0 a2 (l0.length : Int) 0 (l0.length : Int) a1_0 a1_1 a1_2
def slices_BinarySearchFunc_Part_Part_Part.T5 : Bool × List (List Nat × List Nat) := (true, [([], []), ([], []), ([], []), ([1, 2], [1, 2]), ([3], [3]), ([], []), ([0, 4, 5], [0, 4, 5]), ([6], [6])])
def slices_BinarySearchFunc_Part_Part_Part.B5 : List Nat := [0, 0, 0, 6, 14, 0, 63, 127]
theorem slices_BinarySearchFunc_Part_Part_Part.tab5 : rtab .any (opsOf Try.f40 5) = slices_BinarySearchFunc_Part_Part_Part.T5 := by kernel_rfl
theorem slices_BinarySearchFunc_Part_Part_Part.bits5 : waitsOk slices_BinarySearchFunc_Part_Part_Part.T5.2 slices_BinarySearchFunc_Part_Part_Part.B5 = true := by kernel_rfl
def slices_BinarySearchFunc_Part_Part_Part.T8 : Bool × List (List Nat × List Nat) := (true, [([], []), ([], []), ([], []), ([1, 2], [1, 2]), ([3], [3]), ([4], [4]), ([4], [4]), ([4], [4]), ([6, 7, 4], [4, 6, 7]), ([8, 4], [4, 8]), ([4], [4]), ([5, 9, 10, 4, 4], [4, 5, 9, 10]), ([11, 4], [4, 11]), ([4, 12], [4, 12]), ([0, 11, 0], [0]), ([13, 14, 0, 1, 2, 3, 4, 5, 6, 7, 8, 9, 10, 11, 12, 13, 14], [13])])
def slices_BinarySearchFunc_Part_Part_Part.B8 : List Nat := [0, 0, 0, 6, 14, 30, 30, 30, 222, 478, 30, 2046, 4094, 8190, 4095, 32767]
theorem slices_BinarySearchFunc_Part_Part_Part.tab8 : rtab .any (opsOf Try.f40 8) = slices_BinarySearchFunc_Part_Part_Part.T8 := by kernel_rfl
theorem slices_BinarySearchFunc_Part_Part_Part.bits8 : waitsOk slices_BinarySearchFunc_Part_Part_Part.T8.2 slices_BinarySearchFunc_Part_Part_Part.B8 = true := by kernel_rfl
theorem slices_BinarySearchFunc_Part_Part_Part.calls (k : Nat) (A0 : Option Addr) (c0 : Nat) (l0 : List (S49)) (a1_0 : Int) (a1_1 : Int) (a1_2 : ByteArray) (ga2_ : Nat) (ba2_ : Array Value) (a2 : (Int → Int → ByteArray → Int → Int → ByteArray → Option Int)) (r1 : Int) (r2 : Bool) (w : World) (hr0 : Kd.C k49 w A0 l0.length l0) (hc0 : l0.length ≤ c0) (ea2 : ∀ as_ W_, (callFunc ga2_ as_).run Try.prog W_ = .ok (.enter ga2_ as_) W_) (ha2 : ∀ (z0_ : Int) (z1_ : Int) (z2_ : ByteArray) (z3_ : Int) (z4_ : Int) (z5_ : ByteArray) (r_ : Int) (W_ : World), Below w.heap.size w W_ → a2 z0_ z1_ z2_ z3_ z4_ z5_ = some r_ → Calls Try.prog ga2_ (#[.agg #[.int .i64 z0_, .int .i64 z1_, .string z2_], .agg #[.int .i64 z3_, .int .i64 z4_, .string z5_]] ++ ba2_) W_ fun e w' => e = .returned (.int .i64 r_) ∧ Below W_.heap.size W_ w') (h : slices_BinarySearchFunc_Part_Part_Part.f k l0 a1_0 a1_1 a1_2 a2 = some (r1, r2)) :
  Calls Try.prog 40 #[.slice A0 l0.length c0, .agg #[.int .i64 a1_0, .int .i64 a1_1, .string a1_2], .func (.func ga2_) #[] ba2_] w fun e w' => e = .returned (.tuple #[.int .i64 r1, .bool r2]) ∧ Below w.heap.size w w' := by
 have hu49 := Try.underlying49
 have HR0 := Aside0.mk hr0
 have HC0 := Aside0.mk hc0
 clear hr0 hc0
 have HB := Aside0.mk (Below.refl w.heap.size w)
 have H : (slices_BinarySearchFunc_Part_Part_Part.l0 k l0 a2 (l0.length : Int) 0 (l0.length : Int) a1_0 a1_1 a1_2) = some (r1, r2) := h
 clear h
 have H' := Aside0.mk H
 clear H
 go_enter Try.func40, Try.ntmps40
 go_wp2_with (first | ((with_reducible refine gate_dst (N := 4) rfl ?_); refine box_event ?hg (N := 4) ?hd (cs := #[.int .i64 a1_0, .int .i64 a1_1, .string a1_2]) (t := 49) ?hr ?_; (case hd => rfl); (case hg => rfl); (case hr => first | (go_simp; done) | (go_simp; rfl)); intro gb101 hg w4 hbox hb; have n0_ := Aside0.mk (below_step (by repeat (first | (with_reducible first | exact HB.out | apply below_alloc | apply pw_below_drewN | apply below_drew1) | exact HB.out)) hb); have n1_ := Aside0.mk (hbox); have n2_ := Aside0.mk ((by rw [hg]; exact (below_size (by repeat (first | (with_reducible first | exact HB.out | apply below_alloc | apply pw_below_drewN | apply below_drew1) | exact HB.out))) : w.heap.size ≤ gb101)); have n3_ := Aside0.mk ((by rw [hg]; exact (below_size (by repeat (first | (with_reducible first | exact HB.out | apply below_alloc | apply pw_below_drewN | apply below_drew1) | exact HB.out))) : w.heap.size ≤ gb101)); clear HB; have HB := n0_; have BK101 := n1_; have GW101 := n2_; have GE101 := n3_; clear n0_ n1_ n2_ n3_; clear hb hbox hg))
 go_loopg [9, 10] k (fun kq v9 v10 w' => ∃ (x9_1 : Int) (x10_1 : Int), v9 = .int .i64 x9_1 ∧ v10 = .int .i64 x10_1 ∧ Aside0 (slices_BinarySearchFunc_Part_Part_Part.l0 kq l0 a2 (l0.length : Int) x9_1 x10_1 a1_0 a1_1 a1_2 = some (r1, r2)) ∧ Aside0 (kq ≤ k) ∧ Aside0 (w'.heap[gb101]? = some (.cells #[.int .i64 a1_0, .int .i64 a1_1, .string a1_2] 49 (0, 0))) ∧ Aside0 (Below w.heap.size w w'))
 case atStart => exact ⟨(0), ((l0.length : Int)), (by first | rfl | (simp; done) | (simp [*]; done)), (by first | rfl | (simp; done) | (simp [*]; done)), H', ⟨Nat.le_refl _⟩, ⟨by (with_reducible repeat (first | refine blk_drewN ?_ _ | refine blk_drew ?_ | refine blk_alloc ?_ _)); exact BK101.out⟩, ⟨by repeat (first | (with_reducible first | exact HB.out | apply below_alloc | apply pw_below_drewN | apply below_drew1 | refine below_set ?_ GE101.out) | exact HB.out)⟩⟩
 case round =>
  clear H'
  try clear p2
  try clear c4
  obtain ⟨x9_1, x10_1, rfl, rfl, HA, HK1, BK101, HB⟩ := hrel
  cases gk with
  | zero => exact absurd HA.out (by simp [slices_BinarySearchFunc_Part_Part_Part.l0])
  | succ k1 =>
   have H := HA.out
   clear HA
   simp only [slices_BinarySearchFunc_Part_Part_Part.l0] at H
   by_cases c5 : x9_1 < x10_1
   ·rw [if_pos c5] at H
    have c5b0 : decide (x9_1 < x10_1) = true := decide_eq_true c5
    clear c5
    obtain ⟨ji6, hji6⟩ : ∃ j_ : Int, (wrap64 ((IntKind.u64.wrap (wrap64 (x9_1 + x10_1))) / 2)) = j_ := ⟨_, rfl⟩
    replace H : (if 0 ≤ (ji6) then (if (ji6) < (l0.length : Int) then ((a2 ((rd_T49 l0 (ji6)).f0) ((rd_T49 l0 (ji6)).f1) ((rd_T49 l0 (ji6)).f2) a1_0 a1_1 a1_2).bind fun t103 => (if t103 < 0 then (slices_BinarySearchFunc_Part_Part_Part.l0 k1 l0 a2 (l0.length : Int) (wrap64 ((ji6) + 1)) x10_1 a1_0 a1_1 a1_2) else (slices_BinarySearchFunc_Part_Part_Part.l0 k1 l0 a2 (l0.length : Int) x9_1 ji6 a1_0 a1_1 a1_2))) else (none)) else (none)) = some (r1, r2) := by first | (rw [hji6] at H; exact H) | (simp only [hji6] at H ⊢; exact H)
    have hji6w : (IntKind.i64.wrap ((IntKind.u64.wrap (wrap64 (x9_1 + x10_1))) / 2)) = ji6 := (i64_w _).trans hji6
    by_cases c7 : 0 ≤ (ji6)
    ·rw [if_pos c7] at H
     have c7b0 : decide (0 ≤ (ji6)) = true := decide_eq_true c7
     clear c7
     by_cases c8 : (ji6) < (l0.length : Int)
     ·rw [if_pos c8] at H
      have c8b0 : decide ((ji6) < (l0.length : Int)) = true := decide_eq_true c8
      clear c8
      replace H := Option.bind_eq_some_iff.mp H
      obtain ⟨t103, A90, H⟩ := H
      replace H : (if t103 < 0 then (slices_BinarySearchFunc_Part_Part_Part.l0 k1 l0 a2 (l0.length : Int) (wrap64 ((ji6) + 1)) x10_1 a1_0 a1_1 a1_2) else (slices_BinarySearchFunc_Part_Part_Part.l0 k1 l0 a2 (l0.length : Int) x9_1 ji6 a1_0 a1_1 a1_2)) = some (r1, r2) := H
      have A9 := Aside0.mk A90
      clear A90
      by_cases c10 : t103 < 0
      ·rw [if_pos c10] at H
       have c10b0 : decide (t103 < 0) = true := decide_eq_true c10
       clear c10
       have H' := Aside0.mk H
       clear H
       try go_wp2
       have n0_ := Aside0.mk (blk_drew BK101.out)
       have n1_ := Aside0.mk (below_drew1 HB.out)
       clear BK101
       clear HB
       have BK101 := n0_
       have HB := n1_
       clear n0_ n1_
       have p102 : 0 ≤ ((ji6) : Int) := of_decide_eq_true (by first | (with_reducible assumption) | assumption)
       have q102 : (ji6) < (l0.length : Int) := of_decide_eq_true (by first | (with_reducible assumption) | assumption)
       obtain ⟨ad102, e102, hx102_0, hx102_1, hx102_2⟩ := at_T49 HR0.out (ji6) p102 q102
       have hw102_2 := hx102_2
       have hw102_1 := hx102_1
       have hw102_0 := hx102_0
       cases e102
       replace hx102_0 := (HB.out.cell (World.block_lt_of_cell? w _ hx102_0)).trans hx102_0
       replace hx102_1 := (HB.out.cell (World.block_lt_of_cell? w _ hx102_1)).trans hx102_1
       replace hx102_2 := (HB.out.cell (World.block_lt_of_cell? w _ hx102_2)).trans hx102_2
       replace p102 := eq_true p102
       replace q102 := eq_true q102
       refine start_ (n := 8) (S := fun w' => w'.cell? ⟨gb101, 0, none⟩ = some (.int .i64 a1_0) ∧ w'.cell? ⟨gb101, 1, none⟩ = some (.int .i64 a1_1) ∧ w'.cell? ⟨gb101, 2, none⟩ = some (.string a1_2) ∧ w'.cell? (ad102.add (((ji6)).toNat * 3)) = some (.int .i64 ((rd_T49 l0 (ji6)).f0)) ∧ w'.cell? ⟨(ad102.add (((ji6)).toNat * 3)).block, (ad102.add (((ji6)).toNat * 3)).off + 1, none⟩ = some (.int .i64 ((rd_T49 l0 (ji6)).f1)) ∧ w'.cell? ⟨(ad102.add (((ji6)).toNat * 3)).block, (ad102.add (((ji6)).toNat * 3)).off + 2, none⟩ = some (.string ((rd_T49 l0 (ji6)).f2))) (ds := []) #[false, false, false, false, false, false, false, false] (by kernel_rfl) rfl rfl ⟨(blk_cell BK101.out 0).trans rfl, (blk_cell BK101.out 1).trans rfl, (blk_cell BK101.out 2).trans rfl, ((HB.out.cell (World.block_lt_of_cell? w _ hw102_0)).trans hw102_0), ((HB.out.cell (World.block_lt_of_cell? w _ hw102_1)).trans hw102_1), ((HB.out.cell (World.block_lt_of_cell? w _ hw102_2)).trans hw102_2)⟩ (fun hHeld => ?_); refine with_tabW slices_BinarySearchFunc_Part_Part_Part.tab5 slices_BinarySearchFunc_Part_Part_Part.bits5 (fun HT_ HW_ => ?_)
       generalize wr.drew = w11 at BK101 HB hx102_0 hx102_1 hx102_2 hHeld ⊢
       refine pure_ (i := 0) (N := some 24) (v := ?_) (a' := ?_) #[true, false, false, false, false, false, false, false] rfl rfl (any_of HT_.out (by kernel_rfl)) (fun _ _ _ h => h) (Or.inl ⟨by rfl, ?_⟩) ?_ ?_
       rotate_left
       ·intro w'
        go_simp
        with_reducible rfl
       rotate_left
       ·simp only [Act.put, List.setIfInBounds_toArray, List.set_cons_zero, List.set_cons_succ, i64_w, i32_w]
        rfl
       refine pure_ (i := 1) (N := some 25) (v := ?_) (a' := ?_) #[true, true, false, false, false, false, false, false] rfl rfl (any_of HT_.out (by kernel_rfl)) (fun _ _ _ h => h) (Or.inl ⟨by rfl, ?_⟩) ?_ ?_
       rotate_left
       ·intro w'
        go_simp
        with_reducible rfl
       rotate_left
       ·simp only [Act.put, List.setIfInBounds_toArray, List.set_cons_zero, List.set_cons_succ, i64_w, i32_w]
        rfl
       refine pure_ (i := 2) (N := some 26) (v := ?_) (a' := ?_) #[true, true, true, false, false, false, false, false] rfl rfl (any_of HT_.out (by kernel_rfl)) (fun _ _ _ h => h) (Or.inl ⟨by rfl, ?_⟩) ?_ ?_
       rotate_left
       ·intro w'
        go_simp
        with_reducible rfl
       rotate_left
       ·simp only [Act.put, List.setIfInBounds_toArray, List.set_cons_zero, List.set_cons_succ, i64_w, i32_w]
        rfl
       refine pure_ (i := 3) (N := some 27) (v := ?_) (a' := ?_) #[true, true, true, true, false, false, false, false] rfl rfl (any_of HT_.out (by kernel_rfl)) (fun _ _ _ h => h) (Or.inl ⟨by rfl, ?_⟩) ?_ ?_
       rotate_left
       ·intro w'
        go_simp
        with_reducible rfl
       rotate_left
       ·simp only [Act.put, List.setIfInBounds_toArray, List.set_cons_zero, List.set_cons_succ, i64_w, i32_w]
        rfl
       refine take_ (i := 4) (N := some 28) (v := ?_) (a' := ?_) #[true, true, true, true, true, false, false, false] rfl rfl (take_ofW HT_.out HW_.out (by kernel_rfl)) (fun _ _ _ h => h) (Or.inl ⟨by rfl, ?_⟩) hHeld ?_ ?_
       rotate_left
       ·rintro w' ⟨s0, s1, s2, s3, s4, s5⟩
        go_simp
        with_reducible rfl
       rotate_left
       ·simp only [Act.put, List.setIfInBounds_toArray, List.set_cons_zero, List.set_cons_succ, i64_w, i32_w]
        rfl
       refine take_ (i := 5) (N := some 29) (v := ?_) (a' := ?_) #[true, true, true, true, true, true, false, false] rfl rfl (take_ofW HT_.out HW_.out (by kernel_rfl)) (fun _ _ _ h => h) (Or.inl ⟨by rfl, ?_⟩) hHeld ?_ ?_
       rotate_left
       ·rintro w' ⟨s0, s1, s2, s3, s4, s5⟩
        go_simp
        with_reducible rfl
       rotate_left
       ·simp only [Act.put, List.setIfInBounds_toArray, List.set_cons_zero, List.set_cons_succ, i64_w, i32_w]
        rfl
       refine one_ (i := 6) (N := some 30) #[true, true, true, true, true, true, true, false] rfl rfl (one_of HT_.out (by kernel_rfl)) (by decide) (fun K hK => ?_)
       refine goesV_ ea2 #[.agg #[.int .i64 ((rd_T49 l0 (ji6)).f0), .int .i64 ((rd_T49 l0 (ji6)).f1), .string ((rd_T49 l0 (ji6)).f2)], .agg #[.int .i64 a1_0, .int .i64 a1_1, .string a1_2]] (by rfl) rfl rfl (by rfl) (by (try simp only [List.map_toArray, List.map_cons, List.map_nil]); first | done | (simp only [hji6]; rfl) | rfl | (simp only [List.length_drop, List.length_take]; rfl)) ?_
       with_reducible refine (ha2 ((rd_T49 l0 (ji6)).f0) ((rd_T49 l0 (ji6)).f1) ((rd_T49 l0 (ji6)).f2) a1_0 a1_1 a1_2 t103 _ ?side1 A9.out).mono ?_
       (case side1 => exact (by repeat (first | (with_reducible first | exact HB.out | apply below_alloc | apply pw_below_drewN | apply below_drew1 | refine below_set ?_ GE101.out) | exact HB.out)))
       rintro e w12 ⟨rfl, hb⟩
       refine ⟨_, rfl, ?_⟩
       have n0_ := Aside0.mk (blk_below (g := gb101) (o := .cells #[.int .i64 a1_0, .int .i64 a1_1, .string a1_2] 49 (0, 0)) (by (with_reducible repeat (first | refine blk_drewN ?_ _ | refine blk_drew ?_ | refine blk_alloc ?_ _)); exact BK101.out) hb)
       have n1_ := Aside0.mk (below_step (by repeat (first | (with_reducible first | exact HB.out | apply below_alloc | apply pw_below_drewN | apply below_drew1 | refine below_set ?_ GE101.out) | exact HB.out)) hb)
       clear BK101
       clear HB
       have BK101 := n0_
       have HB := n1_
       clear n0_ n1_
       (try clear hb)
       (try clear hb2)
       (try clear hk)
       (try clear hi)
       refine hK.out _ _ ⟨(blk_cell BK101.out 0).trans rfl, (blk_cell BK101.out 1).trans rfl, (blk_cell BK101.out 2).trans rfl, ((HB.out.cell (World.block_lt_of_cell? w _ hw102_0)).trans hw102_0), ((HB.out.cell (World.block_lt_of_cell? w _ hw102_1)).trans hw102_1), ((HB.out.cell (World.block_lt_of_cell? w _ hw102_2)).trans hw102_2)⟩ (fun hHeld => ?_)
       clear hK K
       refine norm_ (a' := ?_) ?_ ?_
       rotate_left
       ·show Act.put _ (some 30) _ = _
        simp only [Act.put, List.setIfInBounds_toArray, List.set_cons_zero, List.set_cons_succ, i64_w, i32_w]
        rfl
       refine pure_ (i := 7) (N := some 31) (v := ?_) (a' := ?_) #[true, true, true, true, true, true, true, true] rfl rfl (any_of HT_.out (by kernel_rfl)) (fun _ _ _ h => h) (Or.inl ⟨by rfl, ?_⟩) ?_ ?_
       rotate_left
       ·intro w'
        go_simp
        with_reducible rfl
       rotate_left
       ·simp only [Act.put, List.setIfInBounds_toArray, List.set_cons_zero, List.set_cons_succ, i64_w, i32_w]
        rfl
       refine done_ (done_of HT_.out (by kernel_rfl)) ?_
       try go_wp2
       go_roundg k1
       case measure => have := HK1.out; omega
       case rel => exact ⟨(wrap64 ((ji6) + 1)), (x10_1), (by first | rfl | (simp; done) | (simp only [← hji6] <;> (first | rfl | simp)) | (simp [*]; done)), (by first | rfl | (simp; done) | (simp [*]; done)), H', ⟨by have := HK1.out; omega⟩, ⟨by (with_reducible repeat (first | refine blk_drewN ?_ _ | refine blk_drew ?_ | refine blk_alloc ?_ _)); exact BK101.out⟩, ⟨by repeat (first | (with_reducible first | exact HB.out | apply below_alloc | apply pw_below_drewN | apply below_drew1 | refine below_set ?_ GE101.out) | exact HB.out)⟩⟩
      ·rw [if_neg c10] at H
       have c10b0 : decide (t103 < 0) = false := decide_eq_false c10
       clear c10
       have H' := Aside0.mk H
       clear H
       try go_wp2
       have n0_ := Aside0.mk (blk_drew BK101.out)
       have n1_ := Aside0.mk (below_drew1 HB.out)
       clear BK101
       clear HB
       have BK101 := n0_
       have HB := n1_
       clear n0_ n1_
       have p102 : 0 ≤ ((ji6) : Int) := of_decide_eq_true (by first | (with_reducible assumption) | assumption)
       have q102 : (ji6) < (l0.length : Int) := of_decide_eq_true (by first | (with_reducible assumption) | assumption)
       obtain ⟨ad102, e102, hx102_0, hx102_1, hx102_2⟩ := at_T49 HR0.out (ji6) p102 q102
       have hw102_2 := hx102_2
       have hw102_1 := hx102_1
       have hw102_0 := hx102_0
       cases e102
       replace hx102_0 := (HB.out.cell (World.block_lt_of_cell? w _ hx102_0)).trans hx102_0
       replace hx102_1 := (HB.out.cell (World.block_lt_of_cell? w _ hx102_1)).trans hx102_1
       replace hx102_2 := (HB.out.cell (World.block_lt_of_cell? w _ hx102_2)).trans hx102_2
       replace p102 := eq_true p102
       replace q102 := eq_true q102
       refine start_ (n := 8) (S := fun w' => w'.cell? ⟨gb101, 0, none⟩ = some (.int .i64 a1_0) ∧ w'.cell? ⟨gb101, 1, none⟩ = some (.int .i64 a1_1) ∧ w'.cell? ⟨gb101, 2, none⟩ = some (.string a1_2) ∧ w'.cell? (ad102.add (((ji6)).toNat * 3)) = some (.int .i64 ((rd_T49 l0 (ji6)).f0)) ∧ w'.cell? ⟨(ad102.add (((ji6)).toNat * 3)).block, (ad102.add (((ji6)).toNat * 3)).off + 1, none⟩ = some (.int .i64 ((rd_T49 l0 (ji6)).f1)) ∧ w'.cell? ⟨(ad102.add (((ji6)).toNat * 3)).block, (ad102.add (((ji6)).toNat * 3)).off + 2, none⟩ = some (.string ((rd_T49 l0 (ji6)).f2))) (ds := []) #[false, false, false, false, false, false, false, false] (by kernel_rfl) rfl rfl ⟨(blk_cell BK101.out 0).trans rfl, (blk_cell BK101.out 1).trans rfl, (blk_cell BK101.out 2).trans rfl, ((HB.out.cell (World.block_lt_of_cell? w _ hw102_0)).trans hw102_0), ((HB.out.cell (World.block_lt_of_cell? w _ hw102_1)).trans hw102_1), ((HB.out.cell (World.block_lt_of_cell? w _ hw102_2)).trans hw102_2)⟩ (fun hHeld => ?_); refine with_tabW slices_BinarySearchFunc_Part_Part_Part.tab5 slices_BinarySearchFunc_Part_Part_Part.bits5 (fun HT_ HW_ => ?_)
       generalize wr.drew = w13 at BK101 HB hx102_0 hx102_1 hx102_2 hHeld ⊢
       refine pure_ (i := 0) (N := some 24) (v := ?_) (a' := ?_) #[true, false, false, false, false, false, false, false] rfl rfl (any_of HT_.out (by kernel_rfl)) (fun _ _ _ h => h) (Or.inl ⟨by rfl, ?_⟩) ?_ ?_
       rotate_left
       ·intro w'
        go_simp
        with_reducible rfl
       rotate_left
       ·simp only [Act.put, List.setIfInBounds_toArray, List.set_cons_zero, List.set_cons_succ, i64_w, i32_w]
        rfl
       refine pure_ (i := 1) (N := some 25) (v := ?_) (a' := ?_) #[true, true, false, false, false, false, false, false] rfl rfl (any_of HT_.out (by kernel_rfl)) (fun _ _ _ h => h) (Or.inl ⟨by rfl, ?_⟩) ?_ ?_
       rotate_left
       ·intro w'
        go_simp
        with_reducible rfl
       rotate_left
       ·simp only [Act.put, List.setIfInBounds_toArray, List.set_cons_zero, List.set_cons_succ, i64_w, i32_w]
        rfl
       refine pure_ (i := 2) (N := some 26) (v := ?_) (a' := ?_) #[true, true, true, false, false, false, false, false] rfl rfl (any_of HT_.out (by kernel_rfl)) (fun _ _ _ h => h) (Or.inl ⟨by rfl, ?_⟩) ?_ ?_
       rotate_left
       ·intro w'
        go_simp
        with_reducible rfl
       rotate_left
       ·simp only [Act.put, List.setIfInBounds_toArray, List.set_cons_zero, List.set_cons_succ, i64_w, i32_w]
        rfl
       refine pure_ (i := 3) (N := some 27) (v := ?_) (a' := ?_) #[true, true, true, true, false, false, false, false] rfl rfl (any_of HT_.out (by kernel_rfl)) (fun _ _ _ h => h) (Or.inl ⟨by rfl, ?_⟩) ?_ ?_
       rotate_left
       ·intro w'
        go_simp
        with_reducible rfl
       rotate_left
       ·simp only [Act.put, List.setIfInBounds_toArray, List.set_cons_zero, List.set_cons_succ, i64_w, i32_w]
        rfl
       refine take_ (i := 4) (N := some 28) (v := ?_) (a' := ?_) #[true, true, true, true, true, false, false, false] rfl rfl (take_ofW HT_.out HW_.out (by kernel_rfl)) (fun _ _ _ h => h) (Or.inl ⟨by rfl, ?_⟩) hHeld ?_ ?_
       rotate_left
       ·rintro w' ⟨s0, s1, s2, s3, s4, s5⟩
        go_simp
        with_reducible rfl
       rotate_left
       ·simp only [Act.put, List.setIfInBounds_toArray, List.set_cons_zero, List.set_cons_succ, i64_w, i32_w]
        rfl
       refine take_ (i := 5) (N := some 29) (v := ?_) (a' := ?_) #[true, true, true, true, true, true, false, false] rfl rfl (take_ofW HT_.out HW_.out (by kernel_rfl)) (fun _ _ _ h => h) (Or.inl ⟨by rfl, ?_⟩) hHeld ?_ ?_
       rotate_left
       ·rintro w' ⟨s0, s1, s2, s3, s4, s5⟩
        go_simp
        with_reducible rfl
       rotate_left
       ·simp only [Act.put, List.setIfInBounds_toArray, List.set_cons_zero, List.set_cons_succ, i64_w, i32_w]
        rfl
       refine one_ (i := 6) (N := some 30) #[true, true, true, true, true, true, true, false] rfl rfl (one_of HT_.out (by kernel_rfl)) (by decide) (fun K hK => ?_)
       refine goesV_ ea2 #[.agg #[.int .i64 ((rd_T49 l0 (ji6)).f0), .int .i64 ((rd_T49 l0 (ji6)).f1), .string ((rd_T49 l0 (ji6)).f2)], .agg #[.int .i64 a1_0, .int .i64 a1_1, .string a1_2]] (by rfl) rfl rfl (by rfl) (by (try simp only [List.map_toArray, List.map_cons, List.map_nil]); first | done | (simp only [hji6]; rfl) | rfl | (simp only [List.length_drop, List.length_take]; rfl)) ?_
       with_reducible refine (ha2 ((rd_T49 l0 (ji6)).f0) ((rd_T49 l0 (ji6)).f1) ((rd_T49 l0 (ji6)).f2) a1_0 a1_1 a1_2 t103 _ ?side1 A9.out).mono ?_
       (case side1 => exact (by repeat (first | (with_reducible first | exact HB.out | apply below_alloc | apply pw_below_drewN | apply below_drew1 | refine below_set ?_ GE101.out) | exact HB.out)))
       rintro e w14 ⟨rfl, hb⟩
       refine ⟨_, rfl, ?_⟩
       have n0_ := Aside0.mk (blk_below (g := gb101) (o := .cells #[.int .i64 a1_0, .int .i64 a1_1, .string a1_2] 49 (0, 0)) (by (with_reducible repeat (first | refine blk_drewN ?_ _ | refine blk_drew ?_ | refine blk_alloc ?_ _)); exact BK101.out) hb)
       have n1_ := Aside0.mk (below_step (by repeat (first | (with_reducible first | exact HB.out | apply below_alloc | apply pw_below_drewN | apply below_drew1 | refine below_set ?_ GE101.out) | exact HB.out)) hb)
       clear BK101
       clear HB
       have BK101 := n0_
       have HB := n1_
       clear n0_ n1_
       (try clear hb)
       (try clear hb2)
       (try clear hk)
       (try clear hi)
       refine hK.out _ _ ⟨(blk_cell BK101.out 0).trans rfl, (blk_cell BK101.out 1).trans rfl, (blk_cell BK101.out 2).trans rfl, ((HB.out.cell (World.block_lt_of_cell? w _ hw102_0)).trans hw102_0), ((HB.out.cell (World.block_lt_of_cell? w _ hw102_1)).trans hw102_1), ((HB.out.cell (World.block_lt_of_cell? w _ hw102_2)).trans hw102_2)⟩ (fun hHeld => ?_)
       clear hK K
       refine norm_ (a' := ?_) ?_ ?_
       rotate_left
       ·show Act.put _ (some 30) _ = _
        simp only [Act.put, List.setIfInBounds_toArray, List.set_cons_zero, List.set_cons_succ, i64_w, i32_w]
        rfl
       refine pure_ (i := 7) (N := some 31) (v := ?_) (a' := ?_) #[true, true, true, true, true, true, true, true] rfl rfl (any_of HT_.out (by kernel_rfl)) (fun _ _ _ h => h) (Or.inl ⟨by rfl, ?_⟩) ?_ ?_
       rotate_left
       ·intro w'
        go_simp
        with_reducible rfl
       rotate_left
       ·simp only [Act.put, List.setIfInBounds_toArray, List.set_cons_zero, List.set_cons_succ, i64_w, i32_w]
        rfl
       refine done_ (done_of HT_.out (by kernel_rfl)) ?_
       try go_wp2
       go_roundg k1
       case measure => have := HK1.out; omega
       case rel => exact ⟨(x9_1), (ji6), (by first | rfl | (simp; done) | (simp [*]; done)), (by first | rfl | (simp; done) | (simp only [← hji6] <;> (first | rfl | simp)) | (simp [*]; done)), H', ⟨by have := HK1.out; omega⟩, ⟨by (with_reducible repeat (first | refine blk_drewN ?_ _ | refine blk_drew ?_ | refine blk_alloc ?_ _)); exact BK101.out⟩, ⟨by repeat (first | (with_reducible first | exact HB.out | apply below_alloc | apply pw_below_drewN | apply below_drew1 | refine below_set ?_ GE101.out) | exact HB.out)⟩⟩
     ·rw [if_neg c8] at H
      exact absurd H (by simp)
    ·rw [if_neg c7] at H
     exact absurd H (by simp)
   ·rw [if_neg c5] at H
    have c5b0 : decide (x9_1 < x10_1) = false := decide_eq_false c5
    clear c5
    by_cases c15 : x9_1 < (l0.length : Int)
    ·rw [if_pos c15] at H
     have c15b0 : decide (x9_1 < (l0.length : Int)) = true := decide_eq_true c15
     clear c15
     by_cases c16 : 0 ≤ x9_1
     ·rw [if_pos c16] at H
      have c16b0 : decide (0 ≤ x9_1) = true := decide_eq_true c16
      clear c16
      by_cases c17 : x9_1 < (l0.length : Int)
      ·rw [if_pos c17] at H
       have c17b0 : decide (x9_1 < (l0.length : Int)) = true := decide_eq_true c17
       clear c17
       replace H := Option.bind_eq_some_iff.mp H
       obtain ⟨t105, A180, H⟩ := H
       replace H : (some (x9_1, (t105 == 0))) = some (r1, r2) := H
       have A18 := Aside0.mk A180
       clear A180
       simp only [Option.some.injEq, Prod.mk.injEq] at H
       obtain ⟨rfl, rfl⟩ := H
       try go_wp2
       have n0_ := Aside0.mk (blk_drew BK101.out)
       have n1_ := Aside0.mk (below_drew1 HB.out)
       clear BK101
       clear HB
       have BK101 := n0_
       have HB := n1_
       clear n0_ n1_
       have p104 : 0 ≤ (x9_1 : Int) := of_decide_eq_true (by first | (with_reducible assumption) | assumption)
       have q104 : x9_1 < (l0.length : Int) := of_decide_eq_true (by first | (with_reducible assumption) | assumption)
       obtain ⟨ad104, e104, hx104_0, hx104_1, hx104_2⟩ := at_T49 HR0.out x9_1 p104 q104
       have hw104_2 := hx104_2
       have hw104_1 := hx104_1
       have hw104_0 := hx104_0
       cases e104
       replace hx104_0 := (HB.out.cell (World.block_lt_of_cell? w _ hx104_0)).trans hx104_0
       replace hx104_1 := (HB.out.cell (World.block_lt_of_cell? w _ hx104_1)).trans hx104_1
       replace hx104_2 := (HB.out.cell (World.block_lt_of_cell? w _ hx104_2)).trans hx104_2
       replace p104 := eq_true p104
       replace q104 := eq_true q104
       refine start_ (n := 16) (S := fun w' => w'.cell? ⟨gb101, 0, none⟩ = some (.int .i64 a1_0) ∧ w'.cell? ⟨gb101, 1, none⟩ = some (.int .i64 a1_1) ∧ w'.cell? ⟨gb101, 2, none⟩ = some (.string a1_2) ∧ w'.cell? (ad104.add ((x9_1).toNat * 3)) = some (.int .i64 ((rd_T49 l0 x9_1).f0)) ∧ w'.cell? ⟨(ad104.add ((x9_1).toNat * 3)).block, (ad104.add ((x9_1).toNat * 3)).off + 1, none⟩ = some (.int .i64 ((rd_T49 l0 x9_1).f1)) ∧ w'.cell? ⟨(ad104.add ((x9_1).toNat * 3)).block, (ad104.add ((x9_1).toNat * 3)).off + 2, none⟩ = some (.string ((rd_T49 l0 x9_1).f2))) (ds := []) #[false, false, false, false, false, false, false, false, false, false, false, false, false, false, false, false] (by kernel_rfl) rfl rfl ⟨(blk_cell BK101.out 0).trans rfl, (blk_cell BK101.out 1).trans rfl, (blk_cell BK101.out 2).trans rfl, ((HB.out.cell (World.block_lt_of_cell? w _ hw104_0)).trans hw104_0), ((HB.out.cell (World.block_lt_of_cell? w _ hw104_1)).trans hw104_1), ((HB.out.cell (World.block_lt_of_cell? w _ hw104_2)).trans hw104_2)⟩ (fun hHeld => ?_); refine with_tabW slices_BinarySearchFunc_Part_Part_Part.tab8 slices_BinarySearchFunc_Part_Part_Part.bits8 (fun HT_ HW_ => ?_)
       generalize wr.drew = w19 at BK101 HB hx104_0 hx104_1 hx104_2 hHeld ⊢
       refine pure_ (i := 0) (N := some 35) (v := ?_) (a' := ?_) #[true, false, false, false, false, false, false, false, false, false, false, false, false, false, false, false] rfl rfl (any_of HT_.out (by kernel_rfl)) (fun _ _ _ h => h) (Or.inl ⟨by rfl, ?_⟩) ?_ ?_
       rotate_left
       ·intro w'
        go_simp
        with_reducible rfl
       rotate_left
       ·simp only [Act.put, List.setIfInBounds_toArray, List.set_cons_zero, List.set_cons_succ, i64_w, i32_w]
        rfl
       refine pure_ (i := 1) (N := some 36) (v := ?_) (a' := ?_) #[true, true, false, false, false, false, false, false, false, false, false, false, false, false, false, false] rfl rfl (any_of HT_.out (by kernel_rfl)) (fun _ _ _ h => h) (Or.inl ⟨by rfl, ?_⟩) ?_ ?_
       rotate_left
       ·intro w'
        go_simp
        with_reducible rfl
       rotate_left
       ·simp only [Act.put, List.setIfInBounds_toArray, List.set_cons_zero, List.set_cons_succ, i64_w, i32_w]
        rfl
       refine pure_ (i := 2) (N := some 37) (v := ?_) (a' := ?_) #[true, true, true, false, false, false, false, false, false, false, false, false, false, false, false, false] rfl rfl (any_of HT_.out (by kernel_rfl)) (fun _ _ _ h => h) (Or.inl ⟨by rfl, ?_⟩) ?_ ?_
       rotate_left
       ·intro w'
        go_simp
        with_reducible rfl
       rotate_left
       ·simp only [Act.put, List.setIfInBounds_toArray, List.set_cons_zero, List.set_cons_succ, i64_w, i32_w]
        rfl
       refine pure_ (i := 3) (N := some 38) (v := ?_) (a' := ?_) #[true, true, true, true, false, false, false, false, false, false, false, false, false, false, false, false] rfl rfl (any_of HT_.out (by kernel_rfl)) (fun _ _ _ h => h) (Or.inl ⟨by rfl, ?_⟩) ?_ ?_
       rotate_left
       ·intro w'
        go_simp
        with_reducible rfl
       rotate_left
       ·simp only [Act.put, List.setIfInBounds_toArray, List.set_cons_zero, List.set_cons_succ, i64_w, i32_w]
        rfl
       refine pure_ (i := 4) (N := some 39) (v := ?_) (a' := ?_) #[true, true, true, true, true, false, false, false, false, false, false, false, false, false, false, false] rfl rfl (any_of HT_.out (by kernel_rfl)) (fun _ _ _ h => h) (Or.inl ⟨by rfl, ?_⟩) ?_ ?_
       rotate_left
       ·intro w'
        go_simp
        with_reducible rfl
       rotate_left
       ·simp only [Act.put, List.setIfInBounds_toArray, List.set_cons_zero, List.set_cons_succ, i64_w, i32_w]
        rfl
       refine pure_ (i := 5) (N := some 40) (v := ?_) (a' := ?_) #[true, true, true, true, true, true, false, false, false, false, false, false, false, false, false, false] rfl rfl (any_of HT_.out (by kernel_rfl)) (fun _ _ _ h => h) (Or.inl ⟨by rfl, ?_⟩) ?_ ?_
       rotate_left
       ·intro w'
        go_simp
        with_reducible rfl
       rotate_left
       ·simp only [Act.put, List.setIfInBounds_toArray, List.set_cons_zero, List.set_cons_succ, i64_w, i32_w]
        rfl
       refine pure_ (i := 6) (N := some 41) (v := ?_) (a' := ?_) #[true, true, true, true, true, true, true, false, false, false, false, false, false, false, false, false] rfl rfl (any_of HT_.out (by kernel_rfl)) (fun _ _ _ h => h) (Or.inl ⟨by rfl, ?_⟩) ?_ ?_
       rotate_left
       ·intro w'
        go_simp
        with_reducible rfl
       rotate_left
       ·simp only [Act.put, List.setIfInBounds_toArray, List.set_cons_zero, List.set_cons_succ, i64_w, i32_w]
        rfl
       refine pure_ (i := 7) (N := some 42) (v := ?_) (a' := ?_) #[true, true, true, true, true, true, true, true, false, false, false, false, false, false, false, false] rfl rfl (any_of HT_.out (by kernel_rfl)) (fun _ _ _ h => h) (Or.inl ⟨by rfl, ?_⟩) ?_ ?_
       rotate_left
       ·intro w'
        go_simp
        with_reducible rfl
       rotate_left
       ·simp only [Act.put, List.setIfInBounds_toArray, List.set_cons_zero, List.set_cons_succ, i64_w, i32_w]
        rfl
       refine pure_ (i := 8) (N := some 43) (v := ?_) (a' := ?_) #[true, true, true, true, true, true, true, true, true, false, false, false, false, false, false, false] rfl rfl (any_of HT_.out (by kernel_rfl)) (fun _ _ _ h => h) (Or.inl ⟨by rfl, ?_⟩) ?_ ?_
       rotate_left
       ·intro w'
        go_simp
        with_reducible rfl
       rotate_left
       ·simp only [Act.put, List.setIfInBounds_toArray, List.set_cons_zero, List.set_cons_succ, i64_w, i32_w]
        rfl
       refine take_ (i := 9) (N := some 44) (v := ?_) (a' := ?_) #[true, true, true, true, true, true, true, true, true, true, false, false, false, false, false, false] rfl rfl (take_ofW HT_.out HW_.out (by kernel_rfl)) (fun _ _ _ h => h) (Or.inl ⟨by rfl, ?_⟩) hHeld ?_ ?_
       rotate_left
       ·rintro w' ⟨s0, s1, s2, s3, s4, s5⟩
        go_simp
        with_reducible rfl
       rotate_left
       ·simp only [Act.put, List.setIfInBounds_toArray, List.set_cons_zero, List.set_cons_succ, i64_w, i32_w]
        rfl
       refine take_ (i := 10) (N := some 45) (v := ?_) (a' := ?_) #[true, true, true, true, true, true, true, true, true, true, true, false, false, false, false, false] rfl rfl (take_ofW HT_.out HW_.out (by kernel_rfl)) (fun _ _ _ h => h) (Or.inl ⟨by rfl, ?_⟩) hHeld ?_ ?_
       rotate_left
       ·rintro w' ⟨s0, s1, s2, s3, s4, s5⟩
        go_simp
        with_reducible rfl
       rotate_left
       ·simp only [Act.put, List.setIfInBounds_toArray, List.set_cons_zero, List.set_cons_succ, i64_w, i32_w]
        rfl
       refine one_ (i := 11) (N := some 46) #[true, true, true, true, true, true, true, true, true, true, true, true, false, false, false, false] rfl rfl (one_of HT_.out (by kernel_rfl)) (by decide) (fun K hK => ?_)
       refine goesV_ ea2 #[.agg #[.int .i64 ((rd_T49 l0 x9_1).f0), .int .i64 ((rd_T49 l0 x9_1).f1), .string ((rd_T49 l0 x9_1).f2)], .agg #[.int .i64 a1_0, .int .i64 a1_1, .string a1_2]] (by rfl) rfl rfl (by rfl) (by (try simp only [List.map_toArray, List.map_cons, List.map_nil]); first | done | rfl) ?_
       with_reducible refine (ha2 ((rd_T49 l0 x9_1).f0) ((rd_T49 l0 x9_1).f1) ((rd_T49 l0 x9_1).f2) a1_0 a1_1 a1_2 t105 _ ?side1 A18.out).mono ?_
       (case side1 => exact (by repeat (first | (with_reducible first | exact HB.out | apply below_alloc | apply pw_below_drewN | apply below_drew1 | refine below_set ?_ GE101.out) | exact HB.out)))
       rintro e w20 ⟨rfl, hb⟩
       refine ⟨_, rfl, ?_⟩
       have n0_ := Aside0.mk (blk_below (g := gb101) (o := .cells #[.int .i64 a1_0, .int .i64 a1_1, .string a1_2] 49 (0, 0)) (by (with_reducible repeat (first | refine blk_drewN ?_ _ | refine blk_drew ?_ | refine blk_alloc ?_ _)); exact BK101.out) hb)
       have n1_ := Aside0.mk (below_step (by repeat (first | (with_reducible first | exact HB.out | apply below_alloc | apply pw_below_drewN | apply below_drew1 | refine below_set ?_ GE101.out) | exact HB.out)) hb)
       clear BK101
       clear HB
       have BK101 := n0_
       have HB := n1_
       clear n0_ n1_
       (try clear hb)
       (try clear hb2)
       (try clear hk)
       (try clear hi)
       refine hK.out _ _ ⟨(blk_cell BK101.out 0).trans rfl, (blk_cell BK101.out 1).trans rfl, (blk_cell BK101.out 2).trans rfl, ((HB.out.cell (World.block_lt_of_cell? w _ hw104_0)).trans hw104_0), ((HB.out.cell (World.block_lt_of_cell? w _ hw104_1)).trans hw104_1), ((HB.out.cell (World.block_lt_of_cell? w _ hw104_2)).trans hw104_2)⟩ (fun hHeld => ?_)
       clear hK K
       refine norm_ (a' := ?_) ?_ ?_
       rotate_left
       ·show Act.put _ (some 46) _ = _
        simp only [Act.put, List.setIfInBounds_toArray, List.set_cons_zero, List.set_cons_succ, i64_w, i32_w]
        rfl
       refine pure_ (i := 12) (N := some 47) (v := ?_) (a' := ?_) #[true, true, true, true, true, true, true, true, true, true, true, true, true, false, false, false] rfl rfl (any_of HT_.out (by kernel_rfl)) (fun _ _ _ h => h) (Or.inl ⟨by rfl, ?_⟩) ?_ ?_
       rotate_left
       ·intro w'
        go_simp
        with_reducible rfl
       rotate_left
       ·simp only [Act.put, List.setIfInBounds_toArray, List.set_cons_zero, List.set_cons_succ, i64_w, i32_w]
        rfl
       refine pure_ (i := 13) (N := some 48) (v := ?_) (a' := ?_) #[true, true, true, true, true, true, true, true, true, true, true, true, true, true, false, false] rfl rfl (any_of HT_.out (by kernel_rfl)) (fun _ _ _ h => h) (Or.inl ⟨by rfl, ?_⟩) ?_ ?_
       rotate_left
       ·intro w'
        go_simp
        with_reducible rfl
       rotate_left
       ·simp only [Act.put, List.setIfInBounds_toArray, List.set_cons_zero, List.set_cons_succ, i64_w, i32_w]
        rfl
       refine pure_ (i := 14) (N := some 6) (v := ?_) (a' := ?_) #[true, true, true, true, true, true, true, true, true, true, true, true, true, true, true, false] rfl rfl (any_of HT_.out (by kernel_rfl)) (fun _ _ _ h => h) (Or.inl ⟨by rfl, ?_⟩) ?_ ?_
       rotate_left
       ·intro w'
        go_simp
        with_reducible rfl
       rotate_left
       ·simp only [Act.put, List.setIfInBounds_toArray, List.set_cons_zero, List.set_cons_succ, i64_w, i32_w]
        rfl
       refine pure_ (i := 15) (N := some 7) (v := ?_) (a' := ?_) #[true, true, true, true, true, true, true, true, true, true, true, true, true, true, true, true] rfl rfl (any_of HT_.out (by kernel_rfl)) (fun _ _ _ h => h) (Or.inl ⟨by rfl, ?_⟩) ?_ ?_
       rotate_left
       ·intro w'
        go_simp
        with_reducible rfl
       rotate_left
       ·simp only [Act.put, List.setIfInBounds_toArray, List.set_cons_zero, List.set_cons_succ, i64_w, i32_w]
        rfl
       refine done_ (done_of HT_.out (by kernel_rfl)) ?_
       try go_wp2
       go_ret2
       exact ⟨by first | rfl | (simp [*, errW_none, errW_some] <;> rfl), by repeat (first | (with_reducible first | exact HB.out | apply below_alloc | apply pw_below_drewN | apply below_drew1 | refine below_set ?_ GE101.out) | exact HB.out)⟩
      ·rw [if_neg c17] at H
       exact absurd H (by simp)
     ·rw [if_neg c16] at H
      exact absurd H (by simp)
    ·rw [if_neg c15] at H
     have c15b0 : decide (x9_1 < (l0.length : Int)) = false := decide_eq_false c15
     clear c15
     simp only [Option.some.injEq, Prod.mk.injEq] at H
     obtain ⟨rfl, rfl⟩ := H
     try go_wp2
     have n0_ := Aside0.mk (blk_drew BK101.out)
     have n1_ := Aside0.mk (below_drew1 HB.out)
     clear BK101
     clear HB
     have BK101 := n0_
     have HB := n1_
     clear n0_ n1_
     refine start_ (n := 16) (S := fun w' => True) (ds := []) #[false, false, false, false, false, false, false, false, false, false, false, false, false, false, false, false] (by kernel_rfl) rfl rfl trivial (fun hHeld => ?_); refine with_tabW slices_BinarySearchFunc_Part_Part_Part.tab8 slices_BinarySearchFunc_Part_Part_Part.bits8 (fun HT_ HW_ => ?_)
     generalize wr.drew = w21 at BK101 HB hHeld ⊢
     refine pure_ (i := 0) (N := some 35) (v := ?_) (a' := ?_) #[true, false, false, false, false, false, false, false, false, false, false, false, false, false, false, false] rfl rfl (any_of HT_.out (by kernel_rfl)) (fun _ _ _ h => h) (Or.inl ⟨by rfl, ?_⟩) ?_ ?_
     rotate_left
     ·intro w'
      go_simp
      with_reducible rfl
     rotate_left
     ·simp only [Act.put, List.setIfInBounds_toArray, List.set_cons_zero, List.set_cons_succ, i64_w, i32_w]
      rfl
     refine pure_ (i := 1) (N := some 36) (v := ?_) (a' := ?_) #[true, true, false, false, false, false, false, false, false, false, false, false, false, false, false, false] rfl rfl (any_of HT_.out (by kernel_rfl)) (fun _ _ _ h => h) (Or.inl ⟨by rfl, ?_⟩) ?_ ?_
     rotate_left
     ·intro w'
      go_simp
      with_reducible rfl
     rotate_left
     ·simp only [Act.put, List.setIfInBounds_toArray, List.set_cons_zero, List.set_cons_succ, i64_w, i32_w]
      rfl
     refine pure_ (i := 2) (N := some 37) (v := ?_) (a' := ?_) #[true, true, true, false, false, false, false, false, false, false, false, false, false, false, false, false] rfl rfl (any_of HT_.out (by kernel_rfl)) (fun _ _ _ h => h) (Or.inl ⟨by rfl, ?_⟩) ?_ ?_
     rotate_left
     ·intro w'
      go_simp
      with_reducible rfl
     rotate_left
     ·simp only [Act.put, List.setIfInBounds_toArray, List.set_cons_zero, List.set_cons_succ, i64_w, i32_w]
      rfl
     refine pure_ (i := 3) (N := some 38) (v := ?_) (a' := ?_) #[true, true, true, true, false, false, false, false, false, false, false, false, false, false, false, false] rfl rfl (any_of HT_.out (by kernel_rfl)) (fun _ _ _ h => h) (Or.inl ⟨by rfl, ?_⟩) ?_ ?_
     rotate_left
     ·intro w'
      go_simp
      with_reducible rfl
     rotate_left
     ·simp only [Act.put, List.setIfInBounds_toArray, List.set_cons_zero, List.set_cons_succ, i64_w, i32_w]
      rfl
     refine pure_ (i := 4) (N := some 39) (v := ?_) (a' := ?_) #[true, true, true, true, true, false, false, false, false, false, false, false, false, false, false, false] rfl rfl (any_of HT_.out (by kernel_rfl)) (fun _ _ _ h => h) (Or.inl ⟨by rfl, ?_⟩) ?_ ?_
     rotate_left
     ·intro w'
      go_simp
      with_reducible rfl
     rotate_left
     ·simp only [Act.put, List.setIfInBounds_toArray, List.set_cons_zero, List.set_cons_succ, i64_w, i32_w]
      rfl
     refine pure_ (i := 5) (N := some 40) (v := undef) (a' := ?_) #[true, true, true, true, true, true, false, false, false, false, false, false, false, false, false, false] rfl rfl (any_of HT_.out (by kernel_rfl)) (fun _ _ _ h => h) (Or.inr ⟨by rfl, rfl⟩) ?_ ?_
     rotate_left
     ·simp only [Act.put, List.setIfInBounds_toArray, List.set_cons_zero, List.set_cons_succ, i64_w, i32_w]
      rfl
     refine pure_ (i := 6) (N := some 41) (v := undef) (a' := ?_) #[true, true, true, true, true, true, true, false, false, false, false, false, false, false, false, false] rfl rfl (any_of HT_.out (by kernel_rfl)) (fun _ _ _ h => h) (Or.inr ⟨by rfl, rfl⟩) ?_ ?_
     rotate_left
     ·simp only [Act.put, List.setIfInBounds_toArray, List.set_cons_zero, List.set_cons_succ, i64_w, i32_w]
      rfl
     refine pure_ (i := 7) (N := some 42) (v := undef) (a' := ?_) #[true, true, true, true, true, true, true, true, false, false, false, false, false, false, false, false] rfl rfl (any_of HT_.out (by kernel_rfl)) (fun _ _ _ h => h) (Or.inr ⟨by rfl, rfl⟩) ?_ ?_
     rotate_left
     ·simp only [Act.put, List.setIfInBounds_toArray, List.set_cons_zero, List.set_cons_succ, i64_w, i32_w]
      rfl
     refine pure_ (i := 8) (N := some 43) (v := undef) (a' := ?_) #[true, true, true, true, true, true, true, true, true, false, false, false, false, false, false, false] rfl rfl (any_of HT_.out (by kernel_rfl)) (fun _ _ _ h => h) (Or.inr ⟨by rfl, rfl⟩) ?_ ?_
     rotate_left
     ·simp only [Act.put, List.setIfInBounds_toArray, List.set_cons_zero, List.set_cons_succ, i64_w, i32_w]
      rfl
     refine pure_ (i := 9) (N := some 44) (v := undef) (a' := ?_) #[true, true, true, true, true, true, true, true, true, true, false, false, false, false, false, false] rfl rfl (any_of HT_.out (by kernel_rfl)) (fun _ _ _ h => h) (Or.inr ⟨by rfl, rfl⟩) ?_ ?_
     rotate_left
     ·simp only [Act.put, List.setIfInBounds_toArray, List.set_cons_zero, List.set_cons_succ, i64_w, i32_w]
      rfl
     refine pure_ (i := 10) (N := some 45) (v := undef) (a' := ?_) #[true, true, true, true, true, true, true, true, true, true, true, false, false, false, false, false] rfl rfl (any_of HT_.out (by kernel_rfl)) (fun _ _ _ h => h) (Or.inr ⟨by rfl, rfl⟩) ?_ ?_
     rotate_left
     ·simp only [Act.put, List.setIfInBounds_toArray, List.set_cons_zero, List.set_cons_succ, i64_w, i32_w]
      rfl
     refine pure_ (i := 11) (N := some 46) (v := undef) (a' := ?_) #[true, true, true, true, true, true, true, true, true, true, true, true, false, false, false, false] rfl rfl (any_of HT_.out (by kernel_rfl)) (fun _ _ _ h => h) (Or.inr ⟨by rfl, rfl⟩) ?_ ?_
     rotate_left
     ·simp only [Act.put, List.setIfInBounds_toArray, List.set_cons_zero, List.set_cons_succ, i64_w, i32_w]
      rfl
     refine pure_ (i := 12) (N := some 47) (v := undef) (a' := ?_) #[true, true, true, true, true, true, true, true, true, true, true, true, true, false, false, false] rfl rfl (any_of HT_.out (by kernel_rfl)) (fun _ _ _ h => h) (Or.inr ⟨by rfl, rfl⟩) ?_ ?_
     rotate_left
     ·simp only [Act.put, List.setIfInBounds_toArray, List.set_cons_zero, List.set_cons_succ, i64_w, i32_w]
      rfl
     refine pure_ (i := 13) (N := some 48) (v := ?_) (a' := ?_) #[true, true, true, true, true, true, true, true, true, true, true, true, true, true, false, false] rfl rfl (any_of HT_.out (by kernel_rfl)) (fun _ _ _ h => h) (Or.inl ⟨by rfl, ?_⟩) ?_ ?_
     rotate_left
     ·intro w'
      go_simp
      with_reducible rfl
     rotate_left
     ·simp only [Act.put, List.setIfInBounds_toArray, List.set_cons_zero, List.set_cons_succ, i64_w, i32_w]
      rfl
     refine pure_ (i := 14) (N := some 6) (v := ?_) (a' := ?_) #[true, true, true, true, true, true, true, true, true, true, true, true, true, true, true, false] rfl rfl (any_of HT_.out (by kernel_rfl)) (fun _ _ _ h => h) (Or.inl ⟨by rfl, ?_⟩) ?_ ?_
     rotate_left
     ·intro w'
      go_simp
      with_reducible rfl
     rotate_left
     ·simp only [Act.put, List.setIfInBounds_toArray, List.set_cons_zero, List.set_cons_succ, i64_w, i32_w]
      rfl
     refine pure_ (i := 15) (N := some 7) (v := ?_) (a' := ?_) #[true, true, true, true, true, true, true, true, true, true, true, true, true, true, true, true] rfl rfl (any_of HT_.out (by kernel_rfl)) (fun _ _ _ h => h) (Or.inl ⟨by rfl, ?_⟩) ?_ ?_
     rotate_left
     ·intro w'
      go_simp
      with_reducible rfl
     rotate_left
     ·simp only [Act.put, List.setIfInBounds_toArray, List.set_cons_zero, List.set_cons_succ, i64_w, i32_w]
      rfl
     refine done_ (done_of HT_.out (by kernel_rfl)) ?_
     try go_wp2
     go_ret2
     exact ⟨by first | rfl | (simp [*, errW_none, errW_some] <;> rfl), by repeat (first | (with_reducible first | exact HB.out | apply below_alloc | apply pw_below_drewN | apply below_drew1 | refine below_set ?_ GE101.out) | exact HB.out)⟩
end Go.Proofs.Ytoojllfbipfdkaa.L
namespace Go.Proofs.Ytoojllfbipfdkaa.L
open Go.RowKit Go.Proofs.YtoojllfbipfdkaaW.PrintWords Go.Proofs.YtoojllfbipfdkaaW.PrintLast Go.Proofs.YtoojllfbipfdkaaW.PrintMore
set_option linter.unusedVariables false
set_option linter.unusedSimpArgs false
def cmpAt (k : Nat) (z0 z1 : Int) (z2 : ByteArray) (z3 z4 : Int) (z5 : ByteArray) : Option Int := impl_compareParts.f k z0 z1 z2 z3 z4 z5
theorem part_new (W : World) (gen no : Int) (data : ByteArray) : Kd.C k49 (W.alloc (.cells #[.int .i64 gen, .int .i64 no, .string data] 49)) (some ⟨W.heap.size, 0, none⟩) 1 [(⟨gen, no, data⟩ : S49)] := by
  refine ⟨rfl, by omega, fun _ => ⟨_, rfl, fun j p hj => ?_⟩⟩
  cases j with
  | zero =>
    obtain rfl := Option.some.inj hj
    refine ⟨_, rfl, k49_mk _ _, fun i u hu => ?_⟩
    have hn := blk_new W (.cells #[.int .i64 gen, .int .i64 no, .string data] 49)
    rw [show (Addr.add ⟨W.heap.size, 0, none⟩ (0 * k49.sz + i)) = ⟨W.heap.size, i, none⟩ from by by_cases h0 : i = 0 <;> simp [Addr.add, h0], blk_cell hn]
    simpa using hu
  | succ j => simp at hj
theorem _root_.Go.Proofs.Ytoojllfbipfdkaa.L.Below.trans_ {w W W2 : World} (h : Below w.heap.size w W) (k : Below W.heap.size W W2) : Below w.heap.size w W2 := below_step h k
set_option maxHeartbeats 4000000 in
set_option maxRecDepth 100000 in
theorem addPart_calls (w0 W : World) (g : Nat) (A0 : Option Addr) (c0 : Nat) (v1 : Value) (xs : List S49) (gen no : Int) (data : ByteArray) (k : Nat) (okp : Nat → Prop)
    (hbox : W.heap[g]? = some (.cells #[.slice A0 xs.length c0, v1] 25 (0, 0))) (hg0 : w0.heap.size ≤ g) (ho : Kd.R k49 49 W w0.heap.size okp (.slice A0 xs.length c0) xs)
    (hokg : ∀ k_, okp k_ → k_ ≠ g) (hfresh : ∀ k_, W.heap.size ≤ k_ → okp k_)
    (hB : Below w0.heap.size w0 W) (hn : xs.length < 4398046511104) (hbs : slices_BinarySearchFunc_Part_Part_Part.f k xs gen no data (cmpAt k) = some ((xs.length : Int), false)) :
    Calls Try.prog 19 #[.pointer (some ⟨g, 0, none⟩), .int .i64 gen, .int .i64 no, .string data] W fun e w' => e = .returned (.tuple #[]) ∧ ∃ v0, w'.heap[g]? = some (.cells #[v0, v1] 25 (0, 0)) ∧
      Kd.R k49 49 w' w0.heap.size okp v0 (xs ++ [⟨gen, no, data⟩]) ∧ Below w0.heap.size w0 w' ∧ W.heap.size ≤ w'.heap.size ∧ (∀ k_, k_ < W.heap.size → k_ ≠ g → some k_ ≠ (Value.slice A0 xs.length c0).ownBlock → w'.heap[k_]? = W.heap[k_]?) ∧ (v0.ownBlock = (Value.slice A0 xs.length c0).ownBlock ∨ ∃ b, v0.ownBlock = some b ∧ W.heap.size ≤ b) := by
  have HO := Aside0.mk ho
  have BS := Aside0.mk hbox
  have HB := Aside0.mk hB
  have HK := Aside0.mk hokg
  have HF := Aside0.mk hfresh
  have HN := Aside0.mk hn
  have HBS := Aside0.mk hbs
  have HG := Aside0.mk hg0
  have hlg := blk_lt hbox
  have hw0 := hB.size
  clear ho hbox hB hokg hfresh hn hbs hg0
  go_enter Try.func19, Try.ntmps19
  go_wp2_with ((with_reducible refine gate_dst (N := 8) rfl ?_); refine box_event ?hg (N := 8) ?hd (cs := #[.int .i64 0, .int .i64 0, .string ⟨#[]⟩]) (t := 49) ?hr ?_; (case hd => rfl); (case hg => rfl); (case hr => first | (go_simp; done) | (go_simp; rfl)); intro gb hg w4 hbx hb; have m0 := Aside0.mk (Kd.R_below (Kd.R_elderB HO.out gb (Nat.le_of_eq hg.symm)) hb); have m1 := Aside0.mk hb; have m2 := Aside0.mk (blk_below BS.out hb); have m3 := Aside0.mk hbx; have m4 := Aside0.mk (below_step HB.out hb); have hgb := Aside0.mk ((by rw [hg]; omega) : g ≠ gb); have hwb := Aside0.mk ((Nat.le_of_eq hg.symm) : W.heap.size ≤ gb); clear hg hb hbx HO BS HB; have HO := m0; have HW := m1; have BS := m2; have BX := m3; have HB := m4; clear m0 m1 m2 m3 m4; have hcz0 : w4.cell? ⟨gb, 0, none⟩ = some (.int .i64 0) := (blk_cell BX.out 0).trans rfl; have hcz1 : w4.cell? ⟨gb, 1, none⟩ = some (.int .i64 0) := (blk_cell BX.out 1).trans rfl; have hcz2 : w4.cell? ⟨gb, 2, none⟩ = some (.string ⟨#[]⟩) := (blk_cell BX.out 2).trans rfl; have hfz0 := blk_frozen BX.out 0; have hfz1 := blk_frozen BX.out 1; have hfz2 := blk_frozen BX.out 2)
  have m0 := Aside0.mk (Kd.R_mono (Kd.R_far (p := ⟨gb, 2, none⟩) (Kd.R_far (p := ⟨gb, 1, none⟩) (Kd.R_far (p := ⟨gb, 0, none⟩) HO.out (fun _ hk => hk.2) (.int .i64 gen)) (fun _ hk => hk.2) (.int .i64 no)) (fun _ hk => hk.2) (.string data)) (fun _ hk => hk.1))
  have m1 := Aside0.mk (below_set (g := gb) (j := 2) (v := .string data) (below_set (g := gb) (j := 1) (v := .int .i64 no) (below_set (g := gb) (j := 0) (v := .int .i64 gen) HW.out hwb.out) hwb.out) hwb.out)
  have m2 := Aside0.mk (blk_far (p := ⟨gb, 2, none⟩) (blk_far (p := ⟨gb, 1, none⟩) (blk_far (p := ⟨gb, 0, none⟩) BS.out hgb.out (.int .i64 gen)) hgb.out (.int .i64 no)) hgb.out (.string data))
  have m3 := Aside0.mk (blk_put (cs' := #[.int .i64 gen, .int .i64 no, .string data]) (blk_put (cs' := #[.int .i64 gen, .int .i64 no, .string ⟨#[]⟩]) (blk_put (cs' := #[.int .i64 gen, .int .i64 0, .string ⟨#[]⟩]) BX.out 0 (.int .i64 gen) rfl) 1 (.int .i64 no) rfl) 2 (.string data) rfl)
  have hgw := Aside0.mk (show w0.heap.size ≤ gb from Nat.le_trans hw0 hwb.out)
  have m4 := Aside0.mk (below_set (g := gb) (j := 2) (v := .string data) (below_set (g := gb) (j := 1) (v := .int .i64 no) (below_set (g := gb) (j := 0) (v := .int .i64 gen) HB.out hgw.out) hgw.out) hgw.out)
  clear HO HW BS BX HB hcz0 hcz1 hcz2 hfz0 hfz1 hfz2
  generalize (((w4.setCell ⟨gb, 0, none⟩ (.int .i64 gen)).setCell ⟨gb, 1, none⟩ (.int .i64 no)).setCell ⟨gb, 2, none⟩ (.string data)) = w5 at m0 m1 m2 m3 m4 ⊢
  have HO := m0
  have HW := m1
  have BS := m2
  have BX := m3
  have HB := m4
  clear m0 m1 m2 m3 m4
  have m0 := Aside0.mk (Kd.R_drew HO.out)
  have m1 := Aside0.mk (HW.out.drew)
  have m2 := Aside0.mk (blk_drew BS.out)
  have m3 := Aside0.mk (blk_drew BX.out)
  have m4 := Aside0.mk (HB.out.drew)
  clear HO HW BS BX HB
  have HO := m0
  have HW := m1
  have BS := m2
  have BX := m3
  have HB := m4
  clear m0 m1 m2 m3 m4
  refine start_ (n := 11) (S := fun w' => w'.cell? ⟨g, 0, none⟩ = some (.slice A0 xs.length c0) ∧ w'.cell? ⟨gb, 0, none⟩ = some (.int .i64 gen) ∧ w'.cell? ⟨gb, 1, none⟩ = some (.int .i64 no) ∧ w'.cell? ⟨gb, 2, none⟩ = some (.string data)) (ds := [5]) #[false, false, false, false, false, false, false, false, false, false, false] (by kernel_rfl) rfl rfl ⟨(blk_cell BS.out 0).trans rfl, (blk_cell BX.out 0).trans rfl, (blk_cell BX.out 1).trans rfl, (blk_cell BX.out 2).trans rfl⟩ (fun hHeld => ?_)
  generalize w5.drew = w6 at HO HW BS BX HB hHeld ⊢
  refine pure_ (i := 0) (N := some 16) (v := ?_) (a' := ?_) #[true, false, false, false, false, false, false, false, false, false, false] rfl rfl (by kernel_rfl) (fun _ _ _ h => h) (Or.inl ⟨by rfl, ?_⟩) ?_ ?_
  rotate_left
  · intro w'
    go_simp
    with_reducible rfl
  rotate_left
  · simp only [Act.put, List.setIfInBounds_toArray, List.set_cons_zero, List.set_cons_succ, i64_w, i32_w]
    rfl
  refine pure_ (i := 1) (N := some 17) (v := ?_) (a' := ?_) #[true, true, false, false, false, false, false, false, false, false, false] rfl rfl (by kernel_rfl) (fun _ _ _ h => h) (Or.inl ⟨by rfl, ?_⟩) ?_ ?_
  rotate_left
  · intro w'
    go_simp
    with_reducible rfl
  rotate_left
  · simp only [Act.put, List.setIfInBounds_toArray, List.set_cons_zero, List.set_cons_succ, i64_w, i32_w]
    rfl
  refine pure_ (i := 2) (N := some 18) (v := ?_) (a' := ?_) #[true, true, true, false, false, false, false, false, false, false, false] rfl rfl (by kernel_rfl) (fun _ _ _ h => h) (Or.inl ⟨by rfl, ?_⟩) ?_ ?_
  rotate_left
  · intro w'
    go_simp
    with_reducible rfl
  rotate_left
  · simp only [Act.put, List.setIfInBounds_toArray, List.set_cons_zero, List.set_cons_succ, i64_w, i32_w]
    rfl
  refine take_ (i := 3) (N := some 19) (v := ?_) (a' := ?_) #[true, true, true, true, false, false, false, false, false, false, false] rfl rfl (by kernel_rfl) (fun _ _ _ h => h) (Or.inl ⟨by rfl, ?_⟩) hHeld ?_ ?_
  rotate_left
  · rintro w' ⟨s0, s1, s2, s3⟩
    go_simp
    with_reducible rfl
  rotate_left
  · simp only [Act.put, List.setIfInBounds_toArray, List.set_cons_zero, List.set_cons_succ, i64_w, i32_w]
    rfl
  refine take_ (i := 4) (N := some 20) (v := ?_) (a' := ?_) #[true, true, true, true, true, false, false, false, false, false, false] rfl rfl (by kernel_rfl) (fun _ _ _ h => h) (Or.inl ⟨by rfl, ?_⟩) hHeld ?_ ?_
  rotate_left
  · rintro w' ⟨s0, s1, s2, s3⟩
    go_simp
    with_reducible rfl
  rotate_left
  · simp only [Act.put, List.setIfInBounds_toArray, List.set_cons_zero, List.set_cons_succ, i64_w, i32_w]
    rfl
  refine last_ (i := 5) (N := some 21) #[true, true, true, true, true, true, false, false, false, false, false] rfl rfl (by kernel_rfl) (by decide) (fun K hK => ?_)
  refine goes_ Try.func40 (by kernel_rfl) rfl #[.slice A0 xs.length c0, .agg #[.int .i64 gen, .int .i64 no, .string data], .func (.func 41) #[] #[]] (by rfl) rfl rfl (by (try simp only [List.map_toArray, List.map_cons, List.map_nil]); rfl) ?_
  refine (slices_BinarySearchFunc_Part_Part_Part.calls k A0 c0 xs gen no data 41 #[] (cmpAt k) (xs.length : Int) false _ (Kd.R_reads' HO.out).2.2 (Kd.R_reads' HO.out).2.1 (fun as_ w_ => enters_ Try.func41 (by kernel_rfl) rfl as_ w_) (fun z0 z1 z2 z3 z4 z5 r_ W_ _ he => impl_compareParts.calls k z0 z1 z2 z3 z4 z5 r_ W_ he) HBS.out).mono ?_
  rintro e w7 ⟨rfl, hb⟩
  refine ⟨_, rfl, ?_⟩
  have m0 := Aside0.mk (Kd.R_below HO.out hb)
  have m1 := Aside0.mk (Below.trans_ HW.out hb)
  have m2 := Aside0.mk (blk_below BS.out hb)
  have m3 := Aside0.mk (blk_below BX.out hb)
  have m4 := Aside0.mk (Below.trans_ HB.out hb)
  clear HO HW BS BX HB hb
  have HO := m0
  have HW := m1
  have BS := m2
  have BX := m3
  have HB := m4
  clear m0 m1 m2 m3 m4
  refine hK.out _ _ ?_
  clear hK K
  refine norm_ (a' := ?_) ?_ ?_
  rotate_left
  · show Act.put _ (some 21) _ = _
    simp only [Act.put, List.setIfInBounds_toArray, List.set_cons_zero, List.set_cons_succ, i64_w, i32_w]
    rfl
  refine pure_ (i := 6) (N := some 15) (v := ?_) (a' := ?_) #[true, true, true, true, true, true, true, false, false, false, false] rfl rfl (by kernel_rfl) (fun _ _ _ h => h) (Or.inl ⟨by rfl, ?_⟩) ?_ ?_
  rotate_left
  · intro w'
    go_simp
    with_reducible rfl
  rotate_left
  · simp only [Act.put, List.setIfInBounds_toArray, List.set_cons_zero, List.set_cons_succ, i64_w, i32_w]
    rfl
  refine pure_ (i := 7) (N := some 22) (v := ?_) (a' := ?_) #[true, true, true, true, true, true, true, true, false, false, false] rfl rfl (by kernel_rfl) (fun _ _ _ h => h) (Or.inl ⟨by rfl, ?_⟩) ?_ ?_
  rotate_left
  · intro w'
    go_simp
    with_reducible rfl
  rotate_left
  · simp only [Act.put, List.setIfInBounds_toArray, List.set_cons_zero, List.set_cons_succ, i64_w, i32_w]
    rfl
  refine pure_ (i := 8) (N := some 23) (v := ?_) (a' := ?_) #[true, true, true, true, true, true, true, true, true, false, false] rfl rfl (by kernel_rfl) (fun _ _ _ h => h) (Or.inl ⟨by rfl, ?_⟩) ?_ ?_
  rotate_left
  · intro w'
    go_simp
    with_reducible rfl
  rotate_left
  · simp only [Act.put, List.setIfInBounds_toArray, List.set_cons_zero, List.set_cons_succ, i64_w, i32_w]
    rfl
  refine pure_ (i := 9) (N := some 9) (v := ?_) (a' := ?_) #[true, true, true, true, true, true, true, true, true, true, false] rfl rfl (by kernel_rfl) (fun _ _ _ h => h) (Or.inl ⟨by rfl, ?_⟩) ?_ ?_
  rotate_left
  · intro w'
    go_simp
    with_reducible rfl
  rotate_left
  · simp only [Act.put, List.setIfInBounds_toArray, List.set_cons_zero, List.set_cons_succ, i64_w, i32_w]
    rfl
  refine pure_ (i := 10) (N := some 10) (v := ?_) (a' := ?_) #[true, true, true, true, true, true, true, true, true, true, true] rfl rfl (by kernel_rfl) (fun _ _ _ h => h) (Or.inl ⟨by rfl, ?_⟩) ?_ ?_
  rotate_left
  · intro w'
    go_simp
    with_reducible rfl
  rotate_left
  · simp only [Act.put, List.setIfInBounds_toArray, List.set_cons_zero, List.set_cons_succ, i64_w, i32_w]
    rfl
  refine done_ (by kernel_rfl) ?_
  go_wp2
  have m0 := Aside0.mk (Kd.R_drew HO.out)
  have m1 := Aside0.mk (HW.out.drew)
  have m2 := Aside0.mk (blk_drew BS.out)
  have m3 := Aside0.mk (blk_drew BX.out)
  have m4 := Aside0.mk (HB.out.drew)
  clear HO HW BS BX HB
  have HO := m0
  have HW := m1
  have BS := m2
  have BX := m3
  have HB := m4
  clear m0 m1 m2 m3 m4
  refine start_ (n := 12) (S := fun w' => w'.cell? ⟨g, 0, none⟩ = some (.slice A0 xs.length c0) ∧ w'.cell? ⟨gb, 0, none⟩ = some (.int .i64 gen) ∧ w'.cell? ⟨gb, 1, none⟩ = some (.int .i64 no) ∧ w'.cell? ⟨gb, 2, none⟩ = some (.string data)) (ds := [8, 11]) #[false, false, false, false, false, false, false, false, false, false, false, false] (by kernel_rfl) rfl rfl ⟨(blk_cell BS.out 0).trans rfl, (blk_cell BX.out 0).trans rfl, (blk_cell BX.out 1).trans rfl, (blk_cell BX.out 2).trans rfl⟩ (fun hHeld => ?_)
  generalize w7.drew = w8 at HO HW BS BX HB hHeld ⊢
  refine pure_ (i := 0) (N := some 32) (v := ?_) (a' := ?_) #[true, false, false, false, false, false, false, false, false, false, false, false] rfl rfl (by kernel_rfl) (fun _ _ _ h => h) (Or.inl ⟨by rfl, ?_⟩) ?_ ?_
  rotate_left
  · intro w'
    go_simp
    with_reducible rfl
  rotate_left
  · simp only [Act.put, List.setIfInBounds_toArray, List.set_cons_zero, List.set_cons_succ, i64_w, i32_w]
    rfl
  refine pure_ (i := 1) (N := some 33) (v := ?_) (a' := ?_) #[true, true, false, false, false, false, false, false, false, false, false, false] rfl rfl (by kernel_rfl) (fun _ _ _ h => h) (Or.inl ⟨by rfl, ?_⟩) ?_ ?_
  rotate_left
  · intro w'
    go_simp
    with_reducible rfl
  rotate_left
  · simp only [Act.put, List.setIfInBounds_toArray, List.set_cons_zero, List.set_cons_succ, i64_w, i32_w]
    rfl
  refine pure_ (i := 2) (N := some 34) (v := ?_) (a' := ?_) #[true, true, true, false, false, false, false, false, false, false, false, false] rfl rfl (by kernel_rfl) (fun _ _ _ h => h) (Or.inl ⟨by rfl, ?_⟩) ?_ ?_
  rotate_left
  · intro w'
    go_simp
    with_reducible rfl
  rotate_left
  · simp only [Act.put, List.setIfInBounds_toArray, List.set_cons_zero, List.set_cons_succ, i64_w, i32_w]
    rfl
  refine pure_ (i := 3) (N := some 35) (v := ?_) (a' := ?_) #[true, true, true, true, false, false, false, false, false, false, false, false] rfl rfl (by kernel_rfl) (fun _ _ _ h => h) (Or.inl ⟨by rfl, ?_⟩) ?_ ?_
  rotate_left
  · intro w'
    go_simp
    with_reducible rfl
  rotate_left
  · simp only [Act.put, List.setIfInBounds_toArray, List.set_cons_zero, List.set_cons_succ, i64_w, i32_w]
    rfl
  refine pure_ (i := 5) (N := some 37) (v := ?_) (a' := ?_) #[true, true, true, true, false, true, false, false, false, false, false, false] rfl rfl (by kernel_rfl) (fun _ _ _ h => h) (Or.inl ⟨by rfl, ?_⟩) ?_ ?_
  rotate_left
  · intro w'
    go_simp
    with_reducible rfl
  rotate_left
  · simp only [Act.put, List.setIfInBounds_toArray, List.set_cons_zero, List.set_cons_succ, i64_w, i32_w]
    rfl
  refine take_ (i := 4) (N := some 36) (v := ?_) (a' := ?_) #[true, true, true, true, true, true, false, false, false, false, false, false] rfl rfl (by kernel_rfl) (fun _ _ _ h => h) (Or.inl ⟨by rfl, ?_⟩) hHeld ?_ ?_
  rotate_left
  · rintro w' ⟨s0, s1, s2, s3⟩
    go_simp
    with_reducible rfl
  rotate_left
  · simp only [Act.put, List.setIfInBounds_toArray, List.set_cons_zero, List.set_cons_succ, i64_w, i32_w]
    rfl
  refine take_ (i := 6) (N := some 38) (v := ?_) (a' := ?_) #[true, true, true, true, true, true, true, false, false, false, false, false] rfl rfl (by kernel_rfl) (fun _ _ _ h => h) (Or.inl ⟨by rfl, ?_⟩) hHeld ?_ ?_
  rotate_left
  · rintro w' ⟨s0, s1, s2, s3⟩
    go_simp
    with_reducible rfl
  rotate_left
  · simp only [Act.put, List.setIfInBounds_toArray, List.set_cons_zero, List.set_cons_succ, i64_w, i32_w]
    rfl
  refine one_ (i := 7) (N := some 39) #[true, true, true, true, true, true, true, true, false, false, false, false] rfl rfl (by kernel_rfl) (by decide) (fun K hK => ?_)
  refine value_ (w1 := ?_) (v := ?_) (by rfl) rfl ?_ ?_
  rotate_left 2
  · go_simp
    constructor
    · rfl
    · rfl
  refine hK.out _ _ ⟨(World.cell?_alloc_lt _ _ _ (World.block_lt_of_cell? _ _ ((blk_cell BS.out 0).trans rfl))).trans ((blk_cell BS.out 0).trans rfl), (World.cell?_alloc_lt _ _ _ (World.block_lt_of_cell? _ _ ((blk_cell BX.out 0).trans rfl))).trans ((blk_cell BX.out 0).trans rfl), (World.cell?_alloc_lt _ _ _ (World.block_lt_of_cell? _ _ ((blk_cell BX.out 1).trans rfl))).trans ((blk_cell BX.out 1).trans rfl), (World.cell?_alloc_lt _ _ _ (World.block_lt_of_cell? _ _ ((blk_cell BX.out 2).trans rfl))).trans ((blk_cell BX.out 2).trans rfl)⟩ (fun hHeld => ?_)
  clear hK K
  refine norm_ (a' := ?_) ?_ ?_
  rotate_left
  · show Act.put _ (some 39) _ = _
    simp only [Act.put, List.setIfInBounds_toArray, List.set_cons_zero, List.set_cons_succ, i64_w, i32_w]
    rfl
  refine last_ (i := 8) (N := some 40) #[true, true, true, true, true, true, true, true, true, false, false, false] rfl rfl (by kernel_rfl) (by decide) (fun K hK => ?_)
  refine goes_ Try.func42 (by kernel_rfl) rfl #[.slice A0 xs.length c0, .int .i64 xs.length, .slice (some ⟨w8.heap.size, 0, none⟩) 1 1] (by rfl) rfl rfl (by (try simp only [List.map_toArray, List.map_cons, List.map_nil]); rfl) ?_
  refine (insert_end w0 _ xs ⟨gen, no, data⟩ A0 (some ⟨w8.heap.size, 0, none⟩) c0 1 okp (Kd.R_alloc HO.out _) (part_new w8 gen no data) (Nat.le_refl _) (HB.out.alloc HB.out.size _) (fun k hk => HF.out k (by have h3_ := HW.out.size; simp at hk; omega)) HN.out).mono ?_
  rintro e w9 ⟨v7, rfl, ho, hb, hg, hat⟩
  obtain ⟨A7, c7, rfl⟩ := Kd.R_slice ho
  refine ⟨_, rfl, ?_⟩
  have m0 := Aside0.mk ho
  have m1 := Aside0.mk (fun (k_ : Nat) (hk_ : k_ < W.heap.size) (hn_ : some k_ ≠ (Value.slice A0 xs.length c0).ownBlock) => (hg.block k_ (by have h3_ := HW.out.size; simp; omega) hn_).trans ((Below.heap_alloc w8 _ k_ (Nat.lt_of_lt_of_le hk_ HW.out.size)).trans (HW.out.block k_ hk_)))
  have m6 := Aside0.mk (show (Value.slice A7 (xs ++ [(⟨gen, no, data⟩ : S49)]).length c7).ownBlock = (Value.slice A0 xs.length c0).ownBlock ∨ ∃ b, (Value.slice A7 (xs ++ [(⟨gen, no, data⟩ : S49)]).length c7).ownBlock = some b ∧ W.heap.size ≤ b from hat.imp id (fun ⟨b, h1, h2⟩ => ⟨b, h1, by have h3_ := HW.out.size; simp at h2; omega⟩))
  have m2 := Aside0.mk (blk_grown (blk_alloc BS.out _) hg (fun e_ => HK.out g (HO.out.1 g e_.symm) rfl))
  have m4 := Aside0.mk hb
  have m5 := Aside0.mk (show W.heap.size ≤ w9.heap.size from Nat.le_trans HW.out.size (Nat.le_trans (by simp) hg.size))
  clear HO HW BS BX HB ho hb hg hat
  have HO := m0
  have HFR := m1
  have HAT := m6
  have HS3 := m5
  clear m5 m6
  have BS := m2
  have HB := m4
  clear m0 m1 m2 m4
  have hcz := blk_cell BS.out 0
  have hfz := blk_frozen BS.out 0
  refine hK.out _ _ ?_
  clear hK K
  refine norm_ (a' := ?_) ?_ ?_
  rotate_left
  · show Act.put _ (some 40) _ = _
    simp only [Act.put, List.setIfInBounds_toArray, List.set_cons_zero, List.set_cons_succ, i64_w, i32_w]
    rfl
  refine pure_ (i := 9) (N := some 41) (v := ?_) (a' := ?_) #[true, true, true, true, true, true, true, true, true, true, false, false] rfl rfl (by kernel_rfl) (fun _ _ _ h => h) (Or.inl ⟨by rfl, ?_⟩) ?_ ?_
  rotate_left
  · intro w'
    go_simp
    with_reducible rfl
  rotate_left
  · simp only [Act.put, List.setIfInBounds_toArray, List.set_cons_zero, List.set_cons_succ, i64_w, i32_w]
    rfl
  refine pure_ (i := 10) (N := some 42) (v := ?_) (a' := ?_) #[true, true, true, true, true, true, true, true, true, true, true, false] rfl rfl (by kernel_rfl) (fun _ _ _ h => h) (Or.inl ⟨by rfl, ?_⟩) ?_ ?_
  rotate_left
  · intro w'
    go_simp
    with_reducible rfl
  rotate_left
  · simp only [Act.put, List.setIfInBounds_toArray, List.set_cons_zero, List.set_cons_succ, i64_w, i32_w]
    rfl
  refine last_ (i := 11) (N := none) #[true, true, true, true, true, true, true, true, true, true, true, true] rfl rfl (by kernel_rfl) (by decide) (fun K hK => ?_)
  refine skip_ (w1 := ?_) (by rfl) rfl ?_ ?_
  rotate_left
  · go_simp
    rfl
  refine hK.out _ _ ?_
  clear hK K
  refine done_ (by kernel_rfl) ?_
  (try simp only [Exit.inBlock, Exit.then])
  refine bodyPost_end (results_none rfl _ _ _) rfl ?_
  rw [show xs.length + 1 = (xs ++ [(⟨gen, no, data⟩ : S49)]).length by simp]
  exact ⟨rfl, _, blk_put (cs' := #[.slice A7 (xs ++ [(⟨gen, no, data⟩ : S49)]).length c7, v1]) BS.out 0 _ rfl, Kd.R_far (p := ⟨g, 0, none⟩) HO.out (fun k_ hk => HK.out k_ hk) _, below_set HB.out HG.out, by simpa [World.setCell] using HS3.out, fun k_ hk_ h1_ h2_ => (Below.heap_setCell w9 ⟨g, 0, none⟩ _ k_ h1_).trans (HFR.out k_ hk_ h2_), HAT.out⟩
end Go.Proofs.Ytoojllfbipfdkaa.L
namespace Go.Proofs.Ytoojllfbipfdkaa.L
set_option maxHeartbeats 8000000
set_option maxRecDepth 100000
open Go.RowKit Go.Proofs.YtoojllfbipfdkaaW.PrintWords Go.Proofs.YtoojllfbipfdkaaW.PrintLast Go.Proofs.YtoojllfbipfdkaaW.PrintMore Go.Proofs.Ytoojllfbipfdkaa.Fn
attribute [local go_sem] max2_int min2_int max_two min_two max_three min_three max_four min_four
set_option linter.unusedVariables false
set_option linter.unusedSimpArgs false
def impl_NewShelf.l0 : Nat → List ByteArray → Int → Int → List (S49) → List (S47) → Option ((List (S49)) × (List (S47)) × Bool)
 | 0, _, _, _, _, _ => none
 | k + 1, x26, x27, x28, x110000, x110001 => if x28 < x27 then (if 0 ≤ x28 then (if x28 < (x26.length : Int) then (if x110000.length < 4398046511104 ∧ slices_BinarySearchFunc_Part_Part_Part.f 64 x110000 1 x28 (rdOf ByteArray.empty x26 x28) (cmpAt 64) = some ((x110000.length : Int), false) then (impl_NewShelf.l0 k x26 x27 (wrap64 (x28 + 1)) (x110000 ++ [(⟨1, x28, rdOf ByteArray.empty x26 x28⟩ : S49)]) x110001) else (none)) else (none)) else (none)) else (some (x110000, x110001, true))
def impl_NewShelf.f (k : Nat) (a0 : ByteArray) (a1 : Int) : Option ((List (S49)) × (List (S47)) × Bool) := (impl_PartsFor.f k a0 a1).bind fun bt102 => (if bt102.2 = true then (impl_NewShelf.l0 k bt102.1 (bt102.1.length : Int) 0 ([] : List (S49)) (([(⟨a1, (a0.size : Int)⟩ : S47)] : List (S47)))) else (some (([] : List (S49)), ([] : List (S47)), false)))
theorem impl_NewShelf.calls (k : Nat) (a0 : ByteArray) (a1 : Int) (r1 : List (S49)) (r2 : List (S47)) (r3 : Bool) (w : World) (h : impl_NewShelf.f k a0 a1 = some (r1, r2, r3)) :
  Calls Try.prog 7 #[.string a0, .int .i64 a1] w fun e w' => ∃ v0_ v1_ : Value, e = .returned (.tuple #[.agg #[v0_, v1_], .bool r3]) ∧ Kd.R k49 49 w' w.heap.size (fun _ => True) v0_ r1 ∧ Kd.R k47 47 w' w.heap.size (fun _ => True) v1_ r2 ∧ Below w.heap.size w w' := by
 have hu25 := Try.underlying25
 have hu47 := Try.underlying47
 have hu49 := Try.underlying49
 have HB := Aside0.mk (Below.refl w.heap.size w)
 have H : ((impl_PartsFor.f k a0 a1).bind fun bt102 => (if bt102.2 = true then (impl_NewShelf.l0 k bt102.1 (bt102.1.length : Int) 0 ([] : List (S49)) (([(⟨a1, (a0.size : Int)⟩ : S47)] : List (S47)))) else (some (([] : List (S49)), ([] : List (S47)), false)))) = some (r1, r2, r3) := h
 clear h
 replace H := Option.bind_eq_some_iff.mp H
 obtain ⟨⟨t102, t103⟩, A30, H⟩ := H
 replace H : (if t103 = true then (impl_NewShelf.l0 k t102 (t102.length : Int) 0 ([] : List (S49)) (([(⟨a1, (a0.size : Int)⟩ : S47)] : List (S47)))) else (some (([] : List (S49)), ([] : List (S47)), false))) = some (r1, r2, r3) := H
 have A3 := Aside0.mk A30
 clear A30
 by_cases c4 : t103 = true
 ·subst c4
  have H1 : (impl_NewShelf.l0 k t102 (t102.length : Int) 0 ([] : List (S49)) (([(⟨a1, (a0.size : Int)⟩ : S47)] : List (S47)))) = some (r1, r2, r3) := by rw [if_pos rfl] at H; exact H
  clear H
  have H := H1
  clear H1
  obtain ⟨y106, hy106⟩ : ∃ y_ : List (S47), y_ = (([(⟨a1, (a0.size : Int)⟩ : S47)] : List (S47))) := ⟨_, rfl⟩
  replace H : (impl_NewShelf.l0 k t102 (t102.length : Int) 0 ([] : List (S49)) y106) = some (r1, r2, r3) := by first | (rw [hy106]; with_reducible exact H) | (have H := (Option.bind_some _ _).symm.trans H; first | (rw [hy106]; with_reducible exact H) | with_reducible exact H) | (rw [hy106]; exact H) | exact H
  have Ny106 := Aside0.mk hy106
  clear hy106
  have H' := Aside0.mk H
  clear H
  go_enter Try.func7, Try.ntmps7
  go_wp2_with (first | ((with_reducible refine gate_dst (N := 4) rfl ?_); refine box_event ?hg (N := 4) ?hd (cs := #[.slice none 0 0, .slice none 0 0]) (t := 25) ?hr ?_; (case hd => rfl); (case hg => rfl); (case hr => first | (go_simp; done) | (go_simp; rfl)); intro gb101 hg w5 hbox hb; have n0_ := Aside0.mk (below_step (by repeat (first | (with_reducible first | exact HB.out | apply below_alloc | apply pw_below_drewN | apply below_drew1) | exact HB.out)) hb); have n1_ := Aside0.mk (hbox); have n2_ := Aside0.mk ((by rw [hg]; exact (below_size (by repeat (first | (with_reducible first | exact HB.out | apply below_alloc | apply pw_below_drewN | apply below_drew1) | exact HB.out))) : w.heap.size ≤ gb101)); have n3_ := Aside0.mk ((by rw [hg]; exact (below_size (by repeat (first | (with_reducible first | exact HB.out | apply below_alloc | apply pw_below_drewN | apply below_drew1) | exact HB.out))) : w.heap.size ≤ gb101)); clear HB; have HB := n0_; have BK101 := n1_; have GW101 := n2_; have GE101 := n3_; clear n0_ n1_ n2_ n3_; clear hb hbox hg) | ((with_reducible refine gate_callee (f := 18) rfl ?_); refine goesL_ (some 14) rfl rfl Try.func18 (by kernel_rfl) rfl #[.string a0, .int .i64 a1] rfl (by (try simp only [List.map_toArray, List.map_cons, List.map_nil]); first | done | rfl) ?_; (with_reducible refine (impl_PartsFor.calls k a0 a1 t102 true _ A3.out).mono ?_); rintro e w6 ⟨v104, rfl, ho0, hb⟩; refine ⟨_, rfl, ?_⟩; have n0_ := Aside0.mk (Kd.R_lower ho0 (below_size (by repeat (first | (with_reducible first | exact HB.out | apply below_alloc | apply pw_below_drewN | apply below_drew1 | refine below_set ?_ GE101.out) | exact HB.out)))); have n1_ := Aside0.mk (blk_below (g := gb101) (o := .cells #[.slice none 0 0, .slice none 0 0] 25 (0, 0)) (by (with_reducible repeat (first | refine blk_drewN ?_ _ | refine blk_drew ?_ | refine blk_alloc ?_ _)); exact BK101.out) hb); have n2_ := Aside0.mk (below_step (by repeat (first | (with_reducible first | exact HB.out | apply below_alloc | apply pw_below_drewN | apply below_drew1 | refine below_set ?_ GE101.out) | exact HB.out)) hb); clear BK101; clear HB; have HO105 := n0_; have BK101 := n1_; have HB := n2_; clear n0_ n1_ n2_; (try clear hb); (try clear hk); (try clear ho0)) | ((with_reducible refine gate_dst (N := 24) rfl ?_); refine Kd.R_lit k47 _ 47 ?hg (N := 24) ?hd (xs := ([(⟨a1, (a0.size : Int)⟩ : S47)] : List (S47))) (inner := [.int .i64 a1, .int .i64 (a0.size : Int)]) (ok := fun _ => True) (okp := fun _ => True) ?hr ?hp (fun _ hk => hk) trivial (Below.refl _ _) (Nat.le_refl _) (by simp) ?_; (case hd => rfl); (case hg => rfl); (case hr => first | (go_simp; done) | (go_simp; rfl)); (case hp => exact (Reps.c2 (show Kd.M k47 _ _ _ (⟨a1, (a0.size : Int)⟩ : S47) [.int .i64 a1, .int .i64 (a0.size : Int)] from (k47_mkM _ _ _ (⟨a1, (a0.size : Int)⟩ : S47) )) (Reps.none _ _))); intro v107 w7 ho8 hb hg_ hnew_; clear hg_ hnew_; (first | rw [← Ny106.out] at ho8 | (simp only [Int.reduceToNat] at ho8; rw [← Ny106.out] at ho8)); have n0_ := Aside0.mk (Kd.R_below (by (with_reducible repeat (first | apply Kd.R_alloc | apply Kd.R_drewN | apply Kd.R_drew)); exact HO105.out) hb); have n1_ := Aside0.mk (Kd.R_lower ho8 (below_size (by repeat (first | (with_reducible first | exact HB.out | apply below_alloc | apply pw_below_drewN | apply below_drew1 | refine below_set ?_ GE101.out) | exact HB.out)))); have n2_ := Aside0.mk (blk_below (g := gb101) (o := .cells #[.slice none 0 0, .slice none 0 0] 25 (0, 0)) (by (with_reducible repeat (first | refine blk_drewN ?_ _ | refine blk_drew ?_ | refine blk_alloc ?_ _)); exact BK101.out) hb); have n3_ := Aside0.mk (below_step (by repeat (first | (with_reducible first | exact HB.out | apply below_alloc | apply pw_below_drewN | apply below_drew1 | refine below_set ?_ GE101.out) | exact HB.out)) hb); clear HO105; clear BK101; clear HB; have HO105 := n0_; have HO108 := n1_; have BK101 := n2_; have HB := n3_; clear n0_ n1_ n2_ n3_; clear hb ho8; obtain ⟨Ao9, co9, eo9⟩ := Kd.R_slice HO108.out; subst eo9) | ((with_reducible refine gate_dst (N := 8) rfl ?_); refine box_event ?hg (N := 8) ?hd (cs := #[.slice none 0 0, .slice none 0 0]) (t := 25) ?hr ?_; (case hd => rfl); (case hg => rfl); (case hr => first | (go_simp; done) | (go_simp; rfl)); intro gb109 hg w10 hbox hb; have n0_ := Aside0.mk (Kd.R_below (by (with_reducible repeat (first | apply Kd.R_alloc | apply Kd.R_drewN | apply Kd.R_drew)); exact HO105.out) hb); have n1_ := Aside0.mk (Kd.R_below (by (with_reducible repeat (first | apply Kd.R_alloc | apply Kd.R_drewN | apply Kd.R_drew)); exact HO108.out) hb); have n2_ := Aside0.mk (blk_below (g := gb101) (o := .cells #[.slice none 0 0, .slice none 0 0] 25 (0, 0)) (by (with_reducible repeat (first | refine blk_drewN ?_ _ | refine blk_drew ?_ | refine blk_alloc ?_ _)); exact BK101.out) hb); have n3_ := Aside0.mk (below_step (by repeat (first | (with_reducible first | exact HB.out | apply below_alloc | apply pw_below_drewN | apply below_drew1 | refine below_set ?_ GE101.out) | exact HB.out)) hb); have n4_ := Aside0.mk (hbox); have n5_ := Aside0.mk ((by rw [hg]; exact (below_size (by repeat (first | (with_reducible first | exact HB.out | apply below_alloc | apply pw_below_drewN | apply below_drew1 | refine below_set ?_ GE101.out) | exact HB.out))) : w.heap.size ≤ gb109)); have n6_ := Aside0.mk ((by rw [hg]; exact (below_size (by repeat (first | (with_reducible first | exact HB.out | apply below_alloc | apply pw_below_drewN | apply below_drew1 | refine below_set ?_ GE101.out) | exact HB.out))) : w.heap.size ≤ gb109)); have n7_ := Aside0.mk ((by rw [hg]; exact Nat.ne_of_lt (blk_lt (g := gb101) (o := .cells #[.slice none 0 0, .slice none 0 0] 25 (0, 0)) (by (with_reducible repeat (first | refine blk_drewN ?_ _ | refine blk_drew ?_ | refine blk_alloc ?_ _)); exact BK101.out)) : gb101 ≠ gb109)); have n8_ := Aside0.mk ((by rw [hg]; exact Nat.ne_of_gt (blk_lt (g := gb101) (o := .cells #[.slice none 0 0, .slice none 0 0] 25 (0, 0)) (by (with_reducible repeat (first | refine blk_drewN ?_ _ | refine blk_drew ?_ | refine blk_alloc ?_ _)); exact BK101.out)) : gb109 ≠ gb101)); clear HO105; clear HO108; clear BK101; clear HB; have HO105 := n0_; have HO108 := n1_; have BK101 := n2_; have HB := n3_; have BK109 := n4_; have GW109 := n5_; have GE109 := n6_; have NB101_109 := n7_; have NB109_101 := n8_; clear n0_ n1_ n2_ n3_ n4_ n5_ n6_ n7_ n8_; clear hb hbox hg; have hnb11 := NB109_101.out; have hnc11 := NB101_109.out; have hcz12_0 : w10.cell? ⟨gb109, 0, none⟩ = some (.slice none 0 0) := (blk_cell BK109.out 0).trans rfl; have hcz12_1 : w10.cell? ⟨gb109, 1, none⟩ = some (.slice none 0 0) := (blk_cell BK109.out 1).trans rfl; have hfz12_0 := blk_frozen BK109.out 0; have hfz12_1 := blk_frozen BK109.out 1; obtain ⟨Ao13, co13, eo13⟩ := Kd.R_slice HO105.out; subst eo13))
  go_loopg [28] k (fun kq v28 w' => ∃ (x28_1 : Int) (x110000_1 : List (S49)) (u110000 : Value), v28 = .int .i64 x28_1 ∧ Aside0 (impl_NewShelf.l0 kq t102 (t102.length : Int) x28_1 x110000_1 y106 = some (r1, r2, r3)) ∧ Aside0 (kq ≤ k) ∧ Aside0 (Kd.R Kd.string 9 w' w.heap.size (fun _ => True) (.slice Ao13 t102.length co13) t102) ∧ Aside0 (Kd.R k49 49 w' w.heap.size (fun _ => True) u110000 x110000_1) ∧ Aside0 (Kd.R k47 47 w' w.heap.size (fun _ => True) (.slice Ao9 y106.length co9) y106) ∧ Aside0 (w'.heap[gb101]? = some (.cells #[(.slice none 0 0), (.slice none 0 0)] 25 (0, 0))) ∧ Aside0 (w'.heap[gb109]? = some (.cells #[u110000, (.slice Ao9 y106.length co9)] 25 (0, 0))) ∧ Aside0 (Below w.heap.size w w'))
  case atStart => exact ⟨(0), (([] : List (S49))), (.slice none 0 0), (by first | rfl | (simp; done) | (simp [*]; done)), H', ⟨Nat.le_refl _⟩, ⟨by (with_reducible repeat (first | apply Kd.R_alloc | apply Kd.R_drewN | apply Kd.R_drew)); exact Kd.R_mono (Kd.R_far (p := ⟨gb109, 1, none⟩) (Kd.R_far (p := ⟨gb109, 0, none⟩) (Kd.R_types HO105.out BK109.out (by decide)) (fun _ hk => hk.2) (.slice none 0 0)) (fun _ hk => hk.2) (.slice Ao9 y106.length co9)) (fun _ hk => trivial)⟩, ⟨by first | exact Kd.R_nil _ _ _ _ _ | exact Kd.N_nil _ _ _ _ _ | exact Kd.V_nil _ _ _ _ _ | exact Kd.Q_nil _ _ _ _ _ | exact Kd.S_nil _ _ _ _ _⟩, ⟨by (with_reducible repeat (first | apply Kd.R_alloc | apply Kd.R_drewN | apply Kd.R_drew)); exact Kd.R_mono (Kd.R_far (p := ⟨gb109, 1, none⟩) (Kd.R_far (p := ⟨gb109, 0, none⟩) (Kd.R_types HO108.out BK109.out (by decide)) (fun _ hk => hk.2) (.slice none 0 0)) (fun _ hk => hk.2) (.slice Ao9 y106.length co9)) (fun _ hk => trivial)⟩, ⟨by (with_reducible repeat (first | refine blk_drewN ?_ _ | refine blk_drew ?_ | refine blk_alloc ?_ _)); refine blk_far ?_ NB101_109.out _; (with_reducible repeat (first | refine blk_drewN ?_ _ | refine blk_drew ?_ | refine blk_alloc ?_ _)); refine blk_far ?_ NB101_109.out _; (with_reducible repeat (first | refine blk_drewN ?_ _ | refine blk_drew ?_ | refine blk_alloc ?_ _)); exact BK101.out⟩, ⟨by (with_reducible repeat (first | refine blk_drewN ?_ _ | refine blk_drew ?_ | refine blk_alloc ?_ _)); refine blk_put (cs := #[.slice none 0 0, .slice none 0 0]) ?_ 1 _ rfl; (with_reducible repeat (first | refine blk_drewN ?_ _ | refine blk_drew ?_ | refine blk_alloc ?_ _)); refine blk_put (cs := #[.slice none 0 0, .slice none 0 0]) ?_ 0 _ rfl; (with_reducible repeat (first | refine blk_drewN ?_ _ | refine blk_drew ?_ | refine blk_alloc ?_ _)); exact BK109.out⟩, ⟨by repeat (first | (with_reducible first | exact HB.out | apply below_alloc | apply pw_below_drewN | apply below_drew1 | refine below_set ?_ GE101.out | refine below_set ?_ GE109.out) | exact HB.out)⟩⟩
  case round =>
   clear H'
   try clear c1
   try clear c2
   try clear p2
   try clear c4
   try clear c6
   try clear c11
   try clear hcz12_0
   try clear hcz12_1
   try clear hfz12_0
   try clear hfz12_1
   obtain ⟨x28_1, x110000_1, u110000, rfl, HA, HK1, HO_26, HO_110000, HO_110001, BK101, BK109, HB⟩ := hrel
   cases gk with
   | zero => exact absurd HA.out (by simp [impl_NewShelf.l0])
   | succ k1 =>
    have H := HA.out
    clear HA
    simp only [impl_NewShelf.l0] at H
    by_cases c14 : x28_1 < (t102.length : Int)
    ·rw [if_pos c14] at H
     have c14b0 : decide (x28_1 < (t102.length : Int)) = true := decide_eq_true c14
     clear c14
     by_cases c15 : 0 ≤ x28_1
     ·rw [if_pos c15] at H
      have c15b0 : decide (0 ≤ x28_1) = true := decide_eq_true c15
      clear c15
      by_cases c16 : x28_1 < (t102.length : Int)
      ·rw [if_pos c16] at H
       have c16b0 : decide (x28_1 < (t102.length : Int)) = true := decide_eq_true c16
       clear c16
       by_cases c17 : x110000_1.length < 4398046511104 ∧ slices_BinarySearchFunc_Part_Part_Part.f 64 x110000_1 1 x28_1 (rdOf ByteArray.empty t102 x28_1) (cmpAt 64) = some ((x110000_1.length : Int), false)
       ·rw [if_pos c17] at H
        have LMc17 := Aside0.mk c17
        clear c17
        obtain ⟨y111, hy111⟩ : ∃ y_ : List (S49), y_ = (x110000_1 ++ [(⟨1, x28_1, rdOf ByteArray.empty t102 x28_1⟩ : S49)]) := ⟨_, rfl⟩
        replace H : (impl_NewShelf.l0 k1 t102 (t102.length : Int) (wrap64 (x28_1 + 1)) y111 y106) = some (r1, r2, r3) := by first | (rw [hy111]; with_reducible exact H) | (have H := (Option.bind_some _ _).symm.trans H; first | (rw [hy111]; with_reducible exact H) | with_reducible exact H) | (rw [hy111]; exact H) | exact H
        have Ny111 := Aside0.mk hy111
        clear hy111
        have H' := Aside0.mk H
        clear H
        have p110 : 0 ≤ (x28_1 : Int) := of_decide_eq_true (by first | (with_reducible assumption) | assumption)
        have q110 : x28_1 < (t102.length : Int) := of_decide_eq_true (by first | (with_reducible assumption) | assumption)
        obtain ⟨ad110, e110, hx110_0⟩ := Kd.at_string (Kd.R_reads' HO_26.out).2.2 x28_1 p110 q110
        cases e110
        replace p110 := eq_true p110
        replace q110 := eq_true q110
        obtain ⟨Au, cu, eu⟩ := Kd.R_slice HO_110000.out
        subst eu
        have hnb18 := NB109_101.out
        have hnc18 := NB101_109.out
        have hcz19_0 : wr.cell? ⟨gb109, 0, none⟩ = some (.slice Au x110000_1.length cu) := (blk_cell BK109.out 0).trans rfl
        have hcz19_1 : wr.cell? ⟨gb109, 1, none⟩ = some (.slice Ao9 y106.length co9) := (blk_cell BK109.out 1).trans rfl
        have hfz19_0 := blk_frozen BK109.out 0
        have hfz19_1 := blk_frozen BK109.out 1
        go_wp2_with fail
        refine (addPart_calls w wr gb109 Au cu (.slice Ao9 y106.length co9) x110000_1 1 x28_1 (rdOf ByteArray.empty t102 x28_1) 64 (fun k_ => k_ ≠ gb109) BK109.out GE109.out (Kd.R_mono (Kd.R_types HO_110000.out BK109.out (by decide)) (fun _ hk => hk.2)) (fun _ hk => hk) (fun k_ hk => by have h_ := blk_lt BK109.out; omega) HB.out LMc17.out.1 LMc17.out.2).mono ?_
        rintro e w9 ⟨rfl, v9, hbx, ho9, hb9, hs9, hfr, hat⟩
        have m0 := Aside0.mk (Kd.R_mono (ok' := fun _ => True) (Kd.R_step (Kd.R_apart' (Kd.R_types HO_26.out BK109.out (by decide)) (Kd.R_typed HO_110000.out) (by decide)) (fun k_ ok_ lt_ => hfr k_ lt_ ok_.1.2 ok_.2)) (fun _ _ => trivial))
        have m1 := Aside0.mk (Kd.R_mono (ok' := fun _ => True) (Kd.R_step (Kd.R_apart' (Kd.R_types HO_110001.out BK109.out (by decide)) (Kd.R_typed HO_110000.out) (by decide)) (fun k_ ok_ lt_ => hfr k_ lt_ ok_.1.2 ok_.2)) (fun _ _ => trivial))
        have m2 := Aside0.mk ((hfr gb101 (blk_lt BK101.out) NB101_109.out (Kd.R_ne HO_110000.out BK101.out (by decide))).trans BK101.out)
        have m3 := Aside0.mk hbx
        have m4 := Aside0.mk hb9
        have m5 := Aside0.mk (Kd.R_mono (ok' := fun _ => True) ho9 (fun _ _ => trivial))
        clear HO_26 HO_110001 BK101 BK109 HO_110000 HB hbx ho9 hb9 hs9 hfr hat
        go_wp2
        go_roundg k1
        case measure => have := HK1.out; omega
        case rel => exact ⟨(wrap64 (x28_1 + 1)), y111, v9, (by first | rfl | (simp; done) | (simp [*]; done)), H', ⟨by have := HK1.out; omega⟩, m0, ⟨by rw [Ny111.out]; exact m5.out⟩, m1, m2, m3, m4⟩
       ·rw [if_neg c17] at H
        exact absurd H (by simp)
      ·rw [if_neg c16] at H
       exact absurd H (by simp)
     ·rw [if_neg c15] at H
      exact absurd H (by simp)
    ·rw [if_neg c14] at H
     have c14b0 : decide (x28_1 < (t102.length : Int)) = false := decide_eq_false c14
     clear c14
     simp only [Option.some.injEq, Prod.mk.injEq] at H
     obtain ⟨rfl, rfl, rfl⟩ := H
     have hnb23 := NB109_101.out
     have hnc23 := NB101_109.out
     have hcz24_0 : wr.cell? ⟨gb109, 0, none⟩ = some (u110000) := (blk_cell BK109.out 0).trans rfl
     have hcz24_1 : wr.cell? ⟨gb109, 1, none⟩ = some (.slice Ao9 y106.length co9) := (blk_cell BK109.out 1).trans rfl
     have hfz24_0 := blk_frozen BK109.out 0
     have hfz24_1 := blk_frozen BK109.out 1
     obtain ⟨Ao25, co25, eo25⟩ := Kd.R_slice HO_110000.out
     subst eo25
     have hcz26_0 : wr.cell? ⟨gb101, 0, none⟩ = some (.slice none 0 0) := (blk_cell BK101.out 0).trans rfl
     have hcz26_1 : wr.cell? ⟨gb101, 1, none⟩ = some (.slice none 0 0) := (blk_cell BK101.out 1).trans rfl
     have hfz26_0 := blk_frozen BK101.out 0
     have hfz26_1 := blk_frozen BK101.out 1
     go_wp2
     refine bodyPost_ret (results_ct rfl _ _ gb101 25 #[.slice Ao25 x110000_1.length co25, .slice Ao9 y106.length co9] (0, 0) _ rfl (by (with_reducible repeat (first | refine blk_drewN ?_ _ | refine blk_drew ?_ | refine blk_alloc ?_ _)); refine blk_put (cs := #[.slice Ao25 x110000_1.length co25, .slice none 0 0]) ?_ 1 _ rfl; (with_reducible repeat (first | refine blk_drewN ?_ _ | refine blk_drew ?_ | refine blk_alloc ?_ _)); refine blk_put (cs := #[.slice none 0 0, .slice none 0 0]) ?_ 0 _ rfl; (with_reducible repeat (first | refine blk_drewN ?_ _ | refine blk_drew ?_ | refine blk_alloc ?_ _)); exact BK101.out) Try.underlying25 rfl (by kernel_rfl)) rfl ?_
     exact ⟨_, _, by first | rfl | (simp [*, errW_none, errW_some] <;> rfl), by (with_reducible repeat (first | apply Kd.R_alloc | apply Kd.R_drewN | apply Kd.R_drew)); exact Kd.R_mono (Kd.R_far (p := ⟨gb101, 1, none⟩) (Kd.R_far (p := ⟨gb101, 0, none⟩) (Kd.R_types HO_110000.out BK101.out (by decide)) (fun _ hk => hk.2) (.slice Ao25 x110000_1.length co25)) (fun _ hk => hk.2) (.slice Ao9 y106.length co9)) (fun _ hk => trivial), by (with_reducible repeat (first | apply Kd.R_alloc | apply Kd.R_drewN | apply Kd.R_drew)); exact Kd.R_mono (Kd.R_far (p := ⟨gb101, 1, none⟩) (Kd.R_far (p := ⟨gb101, 0, none⟩) (Kd.R_types HO_110001.out BK101.out (by decide)) (fun _ hk => hk.2) (.slice Ao25 x110000_1.length co25)) (fun _ hk => hk.2) (.slice Ao9 y106.length co9)) (fun _ hk => trivial), by repeat (first | (with_reducible first | exact HB.out | apply below_alloc | apply pw_below_drewN | apply below_drew1 | refine below_set ?_ GE101.out | refine below_set ?_ GE109.out) | exact HB.out)⟩
 ·replace c4 := Bool.eq_false_iff.mpr c4
  subst c4
  have H1 : (some (([] : List (S49)), ([] : List (S47)), false)) = some (r1, r2, r3) := by rw [if_neg (show ¬ (false = true) by decide)] at H; exact H
  clear H
  have H := H1
  clear H1
  simp only [Option.some.injEq, Prod.mk.injEq] at H
  obtain ⟨rfl, rfl, rfl⟩ := H
  go_enter Try.func7, Try.ntmps7
  go_wp2_with (first | ((with_reducible refine gate_dst (N := 4) rfl ?_); refine box_event ?hg (N := 4) ?hd (cs := #[.slice none 0 0, .slice none 0 0]) (t := 25) ?hr ?_; (case hd => rfl); (case hg => rfl); (case hr => first | (go_simp; done) | (go_simp; rfl)); intro gb101 hg w27 hbox hb; have n0_ := Aside0.mk (below_step (by repeat (first | (with_reducible first | exact HB.out | apply below_alloc | apply pw_below_drewN | apply below_drew1) | exact HB.out)) hb); have n1_ := Aside0.mk (hbox); have n2_ := Aside0.mk ((by rw [hg]; exact (below_size (by repeat (first | (with_reducible first | exact HB.out | apply below_alloc | apply pw_below_drewN | apply below_drew1) | exact HB.out))) : w.heap.size ≤ gb101)); have n3_ := Aside0.mk ((by rw [hg]; exact (below_size (by repeat (first | (with_reducible first | exact HB.out | apply below_alloc | apply pw_below_drewN | apply below_drew1) | exact HB.out))) : w.heap.size ≤ gb101)); clear HB; have HB := n0_; have BK101 := n1_; have GW101 := n2_; have GE101 := n3_; clear n0_ n1_ n2_ n3_; clear hb hbox hg) | ((with_reducible refine gate_callee (f := 18) rfl ?_); refine goesL_ (some 14) rfl rfl Try.func18 (by kernel_rfl) rfl #[.string a0, .int .i64 a1] rfl (by (try simp only [List.map_toArray, List.map_cons, List.map_nil]); first | done | rfl) ?_; (with_reducible refine (impl_PartsFor.calls k a0 a1 t102 false _ A3.out).mono ?_); rintro e w28 ⟨v104, rfl, ho0, hb⟩; refine ⟨_, rfl, ?_⟩; have n0_ := Aside0.mk (Kd.R_lower ho0 (below_size (by repeat (first | (with_reducible first | exact HB.out | apply below_alloc | apply pw_below_drewN | apply below_drew1 | refine below_set ?_ GE101.out) | exact HB.out)))); have n1_ := Aside0.mk (blk_below (g := gb101) (o := .cells #[.slice none 0 0, .slice none 0 0] 25 (0, 0)) (by (with_reducible repeat (first | refine blk_drewN ?_ _ | refine blk_drew ?_ | refine blk_alloc ?_ _)); exact BK101.out) hb); have n2_ := Aside0.mk (below_step (by repeat (first | (with_reducible first | exact HB.out | apply below_alloc | apply pw_below_drewN | apply below_drew1 | refine below_set ?_ GE101.out) | exact HB.out)) hb); clear BK101; clear HB; have HO105 := n0_; have BK101 := n1_; have HB := n2_; clear n0_ n1_ n2_; (try clear hb); (try clear ho0); have hcz29_0 : w28.cell? ⟨gb101, 0, none⟩ = some (.slice none 0 0) := (blk_cell BK101.out 0).trans rfl; have hcz29_1 : w28.cell? ⟨gb101, 1, none⟩ = some (.slice none 0 0) := (blk_cell BK101.out 1).trans rfl; have hfz29_0 := blk_frozen BK101.out 0; have hfz29_1 := blk_frozen BK101.out 1))
  refine bodyPost_ret (results_ct rfl _ _ gb101 25 #[.slice none 0 0, .slice none 0 0] (0, 0) _ rfl (by (with_reducible repeat (first | refine blk_drewN ?_ _ | refine blk_drew ?_ | refine blk_alloc ?_ _)); refine blk_put (cs := #[.slice none 0 0, .slice none 0 0]) ?_ 1 _ rfl; (with_reducible repeat (first | refine blk_drewN ?_ _ | refine blk_drew ?_ | refine blk_alloc ?_ _)); refine blk_put (cs := #[.slice none 0 0, .slice none 0 0]) ?_ 0 _ rfl; (with_reducible repeat (first | refine blk_drewN ?_ _ | refine blk_drew ?_ | refine blk_alloc ?_ _)); exact BK101.out) Try.underlying25 rfl (by kernel_rfl)) rfl ?_
  exact ⟨_, _, by first | rfl | (simp [*, errW_none, errW_some] <;> rfl), by first | exact Kd.R_nil _ _ _ _ _ | exact Kd.N_nil _ _ _ _ _ | exact Kd.V_nil _ _ _ _ _ | exact Kd.Q_nil _ _ _ _ _ | exact Kd.S_nil _ _ _ _ _, by first | exact Kd.R_nil _ _ _ _ _ | exact Kd.N_nil _ _ _ _ _ | exact Kd.V_nil _ _ _ _ _ | exact Kd.Q_nil _ _ _ _ _ | exact Kd.S_nil _ _ _ _ _, by repeat (first | (with_reducible first | exact HB.out | apply below_alloc | apply pw_below_drewN | apply below_drew1 | refine below_set ?_ GE101.out) | exact HB.out)⟩
mutual
def laws_FnExactNewShelf.j0 : Nat → ByteArray → Int → Bool → Bool → List (S49) → List (S47) → List (S49) → List (S47) → Option (Bool)
 | 0, _, _, _, _, _, _, _, _ => none
 | k + 1, x0, x1, x6, x36, x109000, x109001, x117000, x117001 => if x36 = true then (some false) else ((laws_markShelf.f k x117000 x117001 1).bind fun bt118 => ((laws_heldShelf.f k bt118.2.1 bt118.2.2 1).bind fun t121 => (if t121 < 0 then (some false) else (if t121 = bt118.1 then ((impl_NewShelf.f k x0 x1).bind fun bt122 => ((laws_eqShelf.f k bt122.1 bt122.2.1 x109000 x109001).bind fun t130 => (if t130 = true then (laws_FnExactNewShelf.j1 k bt118.1 (bt122.2.2 != x6) bt118.2.1 bt118.2.2) else (laws_FnExactNewShelf.j1 k bt118.1 true bt118.2.1 bt118.2.2)))) else (some false)))))
def laws_FnExactNewShelf.j1 : Nat → Int → Bool → List (S49) → List (S47) → Option (Bool)
 | 0, _, _, _, _ => none
 | k + 1, x9, x62, x117000, x117001 => if x62 = true then (some false) else ((laws_heldShelf.f k x117000 x117001 1).bind fun t131 => (if t131 < 0 then (some false) else (if t131 = x9 then (some true) else (some false))))
end
def laws_FnExactNewShelf.f (k : Nat) (a0 : ByteArray) (a1 : Int) : Option (Bool) := if (a0.size : Int) > 1048576 then (some true) else ((spec_NewShelf.f k a0 a1).bind fun bt101 => ((impl_NewShelf.f k a0 a1).bind fun bt109 => ((laws_eqShelf.f k bt109.1 bt109.2.1 bt101.1 bt101.2.1).bind fun t117 => (if t117 = true then (laws_FnExactNewShelf.j0 k a0 a1 bt101.2.2 (bt109.2.2 != bt101.2.2) bt101.1 bt101.2.1 bt109.1 bt109.2.1) else (laws_FnExactNewShelf.j0 k a0 a1 bt101.2.2 true bt101.1 bt101.2.1 bt109.1 bt109.2.1)))))
theorem laws_FnExactNewShelf.calls (k : Nat) (a0 : ByteArray) (a1 : Int) (r : Bool) (w : World) (h : laws_FnExactNewShelf.f k a0 a1 = some r) :
  Calls Try.prog 3 #[.string a0, .int .i64 a1] w fun e w' => e = .returned (.bool r) ∧ Below w.heap.size w w' := by
 have hu25 := Try.underlying25
 have HB := Aside0.mk (Below.refl w.heap.size w)
 have H : (if (a0.size : Int) > 1048576 then (some true) else ((spec_NewShelf.f k a0 a1).bind fun bt101 => ((impl_NewShelf.f k a0 a1).bind fun bt109 => ((laws_eqShelf.f k bt109.1 bt109.2.1 bt101.1 bt101.2.1).bind fun t117 => (if t117 = true then (laws_FnExactNewShelf.j0 k a0 a1 bt101.2.2 (bt109.2.2 != bt101.2.2) bt101.1 bt101.2.1 bt109.1 bt109.2.1) else (laws_FnExactNewShelf.j0 k a0 a1 bt101.2.2 true bt101.1 bt101.2.1 bt109.1 bt109.2.1)))))) = some r := h
 clear h
 by_cases c3 : (a0.size : Int) > 1048576
 ·rw [if_pos c3] at H
  have c3b0 : decide (1048576 < (a0.size : Int)) = true := decide_eq_true c3
  have c3b1 : decide (1048576 < a0.size) = true := decide_eq_true (by omega)
  clear c3
  obtain rfl := Option.some.inj H
  go_enter Try.func3, Try.ntmps3
  go_wp2
  go_ret
  exact ⟨by first | rfl | (simp [*, errW_none, errW_some] <;> rfl), by repeat (with_reducible first | exact HB.out | apply below_alloc | apply pw_below_drewN | apply below_drew1)⟩
 ·rw [if_neg c3] at H
  have c3b0 : decide (1048576 < (a0.size : Int)) = false := decide_eq_false c3
  have c3b1 : decide (1048576 < a0.size) = false := decide_eq_false (by omega)
  clear c3
  replace H := Option.bind_eq_some_iff.mp H
  obtain ⟨⟨t101, t104, t107⟩, A40, H⟩ := H
  replace H : ((impl_NewShelf.f k a0 a1).bind fun bt109 => ((laws_eqShelf.f k bt109.1 bt109.2.1 t101 t104).bind fun t117 => (if t117 = true then (laws_FnExactNewShelf.j0 k a0 a1 t107 (bt109.2.2 != t107) t101 t104 bt109.1 bt109.2.1) else (laws_FnExactNewShelf.j0 k a0 a1 t107 true t101 t104 bt109.1 bt109.2.1)))) = some r := H
  have A4 := Aside0.mk A40
  clear A40
  replace H := Option.bind_eq_some_iff.mp H
  obtain ⟨⟨t109, t112, t115⟩, A50, H⟩ := H
  replace H : ((laws_eqShelf.f k t109 t112 t101 t104).bind fun t117 => (if t117 = true then (laws_FnExactNewShelf.j0 k a0 a1 t107 (t115 != t107) t101 t104 t109 t112) else (laws_FnExactNewShelf.j0 k a0 a1 t107 true t101 t104 t109 t112))) = some r := H
  have A5 := Aside0.mk A50
  clear A50
  have HC6 := Aside0.mk H
  clear H
  go_enter Try.func3, Try.ntmps3
  go_upto_region 5 with (first | ((with_reducible refine gate_callee (f := 6) rfl ?_); refine goesL_ (some 19) rfl rfl Try.func6 (by kernel_rfl) rfl #[.string a0, .int .i64 a1] rfl (by (try simp only [List.map_toArray, List.map_cons, List.map_nil]); first | done | rfl) ?_; (with_reducible refine (spec_NewShelf.calls k a0 a1 t101 t104 t107 _ A4.out).mono ?_); rintro e w7 ⟨v102, v105, rfl, ho0, ho1, hb⟩; refine ⟨_, rfl, ?_⟩; have n0_ := Aside0.mk (Kd.R_lower ho0 (below_size (by repeat (with_reducible first | exact HB.out | apply below_alloc | apply pw_below_drewN | apply below_drew1)))); have n1_ := Aside0.mk (Kd.R_lower ho1 (below_size (by repeat (with_reducible first | exact HB.out | apply below_alloc | apply pw_below_drewN | apply below_drew1)))); have n2_ := Aside0.mk (below_step (by repeat (with_reducible first | exact HB.out | apply below_alloc | apply pw_below_drewN | apply below_drew1)) hb); clear HB; have HO103 := n0_; have HO106 := n1_; have HB := n2_; clear n0_ n1_ n2_; (try clear hb); (try clear hk); (try clear ho0); (try clear ho1)) | ((with_reducible refine gate_dst (N := 5) rfl ?_); refine box_event ?hg (N := 5) ?hd (cs := #[.slice none 0 0, .slice none 0 0]) (t := 25) ?hr ?_; (case hd => rfl); (case hg => rfl); (case hr => first | (go_simp; done) | (go_simp; rfl)); intro gb108 hg w8 hbox hb; have n0_ := Aside0.mk (Kd.R_below (by (with_reducible repeat (first | apply Kd.R_alloc | apply Kd.R_drewN | apply Kd.R_drew)); exact HO103.out) hb); have n1_ := Aside0.mk (Kd.R_below (by (with_reducible repeat (first | apply Kd.R_alloc | apply Kd.R_drewN | apply Kd.R_drew)); exact HO106.out) hb); have n2_ := Aside0.mk (below_step (by repeat (with_reducible first | exact HB.out | apply below_alloc | apply pw_below_drewN | apply below_drew1)) hb); have n3_ := Aside0.mk (hbox); have n4_ := Aside0.mk ((by rw [hg]; exact (below_size (by repeat (with_reducible first | exact HB.out | apply below_alloc | apply pw_below_drewN | apply below_drew1))) : w.heap.size ≤ gb108)); have n5_ := Aside0.mk ((by rw [hg]; exact (below_size (by repeat (with_reducible first | exact HB.out | apply below_alloc | apply pw_below_drewN | apply below_drew1))) : w.heap.size ≤ gb108)); clear HO103; clear HO106; clear HB; have HO103 := n0_; have HO106 := n1_; have HB := n2_; have BK108 := n3_; have GW108 := n4_; have GE108 := n5_; clear n0_ n1_ n2_ n3_ n4_ n5_; clear hb hbox hg; obtain ⟨Ao9, co9, eo9⟩ := Kd.R_slice HO103.out; subst eo9; have hcz10_0 : w8.cell? ⟨gb108, 0, none⟩ = some (.slice none 0 0) := (blk_cell BK108.out 0).trans rfl; have hcz10_1 : w8.cell? ⟨gb108, 1, none⟩ = some (.slice none 0 0) := (blk_cell BK108.out 1).trans rfl; have hfz10_0 := blk_frozen BK108.out 0; have hfz10_1 := blk_frozen BK108.out 1; obtain ⟨Ao11, co11, eo11⟩ := Kd.R_slice HO106.out; subst eo11) | ((with_reducible refine gate_callee (f := 7) rfl ?_); refine goesL_ (some 25) rfl rfl Try.func7 (by kernel_rfl) rfl #[.string a0, .int .i64 a1] rfl (by (try simp only [List.map_toArray, List.map_cons, List.map_nil]); first | done | rfl) ?_; (with_reducible refine (impl_NewShelf.calls k a0 a1 t109 t112 t115 _ A5.out).mono ?_); rintro e w12 ⟨v110, v113, rfl, ho0, ho1, hb⟩; refine ⟨_, rfl, ?_⟩; have n0_ := Aside0.mk (Kd.R_elder' (by (with_reducible repeat (first | apply Kd.R_alloc | apply Kd.R_drewN | apply Kd.R_drew)); exact (Kd.R_mono (Kd.R_far (p := ⟨gb108, 1, none⟩) (Kd.R_far (p := ⟨gb108, 0, none⟩) (Kd.R_types HO103.out BK108.out (by decide)) (fun _ hk => hk.2) (.slice Ao9 t101.length co9)) (fun _ hk => hk.2) (.slice Ao11 t104.length co11)) (fun _ h_ => h_.1))) (by first | exact Kd.N_base ho0 | exact Kd.S_base ho0 | exact Kd.R_base ho0) hb); have n1_ := Aside0.mk (Kd.R_elder' (by (with_reducible repeat (first | apply Kd.R_alloc | apply Kd.R_drewN | apply Kd.R_drew)); exact (Kd.R_mono (Kd.R_far (p := ⟨gb108, 1, none⟩) (Kd.R_far (p := ⟨gb108, 0, none⟩) (Kd.R_types HO106.out BK108.out (by decide)) (fun _ hk => hk.2) (.slice Ao9 t101.length co9)) (fun _ hk => hk.2) (.slice Ao11 t104.length co11)) (fun _ h_ => h_.1))) (by first | exact Kd.N_base ho1 | exact Kd.S_base ho1 | exact Kd.R_base ho1) hb); have n2_ := Aside0.mk (Kd.R_lower (Kd.R_new' ho0 (Kd.R_lt (by (with_reducible repeat (first | apply Kd.R_alloc | apply Kd.R_drewN | apply Kd.R_drew)); exact (Kd.R_mono (Kd.R_far (p := ⟨gb108, 1, none⟩) (Kd.R_far (p := ⟨gb108, 0, none⟩) (Kd.R_types HO103.out BK108.out (by decide)) (fun _ hk => hk.2) (.slice Ao9 t101.length co9)) (fun _ hk => hk.2) (.slice Ao11 t104.length co11)) (fun _ h_ => h_.1))))) (below_size (by repeat (with_reducible first | exact HB.out | apply below_alloc | apply pw_below_drewN | apply below_drew1 | refine below_set ?_ GE108.out)))); have n3_ := Aside0.mk (Kd.R_lower (Kd.R_new' ho1 (Kd.R_lt (by (with_reducible repeat (first | apply Kd.R_alloc | apply Kd.R_drewN | apply Kd.R_drew)); exact (Kd.R_mono (Kd.R_far (p := ⟨gb108, 1, none⟩) (Kd.R_far (p := ⟨gb108, 0, none⟩) (Kd.R_types HO106.out BK108.out (by decide)) (fun _ hk => hk.2) (.slice Ao9 t101.length co9)) (fun _ hk => hk.2) (.slice Ao11 t104.length co11)) (fun _ h_ => h_.1))))) (below_size (by repeat (with_reducible first | exact HB.out | apply below_alloc | apply pw_below_drewN | apply below_drew1 | refine below_set ?_ GE108.out)))); have n4_ := Aside0.mk (blk_below (g := gb108) (o := .cells #[.slice Ao9 t101.length co9, .slice Ao11 t104.length co11] 25 (0, 0)) (by (with_reducible repeat (first | refine blk_drewN ?_ _ | refine blk_drew ?_ | refine blk_alloc ?_ _)); refine blk_put (cs := #[.slice Ao9 t101.length co9, .slice none 0 0]) ?_ 1 _ rfl; (with_reducible repeat (first | refine blk_drewN ?_ _ | refine blk_drew ?_ | refine blk_alloc ?_ _)); refine blk_put (cs := #[.slice none 0 0, .slice none 0 0]) ?_ 0 _ rfl; (with_reducible repeat (first | refine blk_drewN ?_ _ | refine blk_drew ?_ | refine blk_alloc ?_ _)); exact BK108.out) hb); have n5_ := Aside0.mk (below_step (by repeat (with_reducible first | exact HB.out | apply below_alloc | apply pw_below_drewN | apply below_drew1 | refine below_set ?_ GE108.out)) hb); clear HO103; clear HO106; clear BK108; clear HB; have HO103 := n0_; have HO106 := n1_; have HO111 := n2_; have HO114 := n3_; have BK108 := n4_; have HB := n5_; clear n0_ n1_ n2_ n3_ n4_ n5_; (try clear hb); (try clear hk); (try clear ho0); (try clear ho1)) | ((with_reducible refine gate_dst (N := 7) rfl ?_); refine box_event ?hg (N := 7) ?hd (cs := #[.slice none 0 0, .slice none 0 0]) (t := 25) ?hr ?_; (case hd => rfl); (case hg => rfl); (case hr => first | (go_simp; done) | (go_simp; rfl)); intro gb116 hg w13 hbox hb; have n0_ := Aside0.mk (Kd.R_below (by (with_reducible repeat (first | apply Kd.R_alloc | apply Kd.R_drewN | apply Kd.R_drew)); exact HO103.out) hb); have n1_ := Aside0.mk (Kd.R_below (by (with_reducible repeat (first | apply Kd.R_alloc | apply Kd.R_drewN | apply Kd.R_drew)); exact HO106.out) hb); have n2_ := Aside0.mk (Kd.R_below (by (with_reducible repeat (first | apply Kd.R_alloc | apply Kd.R_drewN | apply Kd.R_drew)); exact HO111.out) hb); have n3_ := Aside0.mk (Kd.R_below (by (with_reducible repeat (first | apply Kd.R_alloc | apply Kd.R_drewN | apply Kd.R_drew)); exact HO114.out) hb); have n4_ := Aside0.mk (blk_below (g := gb108) (o := .cells #[.slice Ao9 t101.length co9, .slice Ao11 t104.length co11] 25 (0, 0)) (by (with_reducible repeat (first | refine blk_drewN ?_ _ | refine blk_drew ?_ | refine blk_alloc ?_ _)); exact BK108.out) hb); have n5_ := Aside0.mk (below_step (by repeat (with_reducible first | exact HB.out | apply below_alloc | apply pw_below_drewN | apply below_drew1 | refine below_set ?_ GE108.out)) hb); have n6_ := Aside0.mk (hbox); have n7_ := Aside0.mk ((by rw [hg]; exact (below_size (by repeat (with_reducible first | exact HB.out | apply below_alloc | apply pw_below_drewN | apply below_drew1 | refine below_set ?_ GE108.out))) : w.heap.size ≤ gb116)); have n8_ := Aside0.mk ((by rw [hg]; exact (below_size (by repeat (with_reducible first | exact HB.out | apply below_alloc | apply pw_below_drewN | apply below_drew1 | refine below_set ?_ GE108.out))) : w.heap.size ≤ gb116)); have n9_ := Aside0.mk ((by rw [hg]; exact Nat.ne_of_lt (blk_lt (g := gb108) (o := .cells #[.slice Ao9 t101.length co9, .slice Ao11 t104.length co11] 25 (0, 0)) (by (with_reducible repeat (first | refine blk_drewN ?_ _ | refine blk_drew ?_ | refine blk_alloc ?_ _)); exact BK108.out)) : gb108 ≠ gb116)); have n10_ := Aside0.mk ((by rw [hg]; exact Nat.ne_of_gt (blk_lt (g := gb108) (o := .cells #[.slice Ao9 t101.length co9, .slice Ao11 t104.length co11] 25 (0, 0)) (by (with_reducible repeat (first | refine blk_drewN ?_ _ | refine blk_drew ?_ | refine blk_alloc ?_ _)); exact BK108.out)) : gb116 ≠ gb108)); clear HO103; clear HO106; clear HO111; clear HO114; clear BK108; clear HB; have HO103 := n0_; have HO106 := n1_; have HO111 := n2_; have HO114 := n3_; have BK108 := n4_; have HB := n5_; have BK116 := n6_; have GW116 := n7_; have GE116 := n8_; have NB108_116 := n9_; have NB116_108 := n10_; clear n0_ n1_ n2_ n3_ n4_ n5_ n6_ n7_ n8_ n9_ n10_; clear hb hbox hg; obtain ⟨Ao14, co14, eo14⟩ := Kd.R_slice HO111.out; subst eo14; have hnb15 := NB116_108.out; have hnc15 := NB108_116.out; have hcz16_0 : w13.cell? ⟨gb116, 0, none⟩ = some (.slice none 0 0) := (blk_cell BK116.out 0).trans rfl; have hcz16_1 : w13.cell? ⟨gb116, 1, none⟩ = some (.slice none 0 0) := (blk_cell BK116.out 1).trans rfl; have hfz16_0 := blk_frozen BK116.out 0; have hfz16_1 := blk_frozen BK116.out 1; obtain ⟨Ao17, co17, eo17⟩ := Kd.R_slice HO114.out; subst eo17))
  (try simp only [Act.put, List.setIfInBounds_toArray, List.set_cons_zero, List.set_cons_succ])
  go_cut [36] (fun v36 wc => ∃ (kq : Nat) (x36_5 : Bool), v36 = .bool x36_5 ∧ Aside0 (laws_FnExactNewShelf.j0 kq a0 a1 t107 x36_5 t101 t104 t109 t112 = some r) ∧ Aside0 (kq ≤ k) ∧ Aside0 (Kd.R k49 49 wc w.heap.size (fun k_ => some k_ ≠ ((.slice Ao14 t109.length co14) : Value).ownBlock) (.slice Ao9 t101.length co9) t101) ∧ Aside0 (Kd.R k47 47 wc w.heap.size (fun k_ => some k_ ≠ ((.slice Ao17 t112.length co17) : Value).ownBlock) (.slice Ao11 t104.length co11) t104) ∧ Aside0 (Kd.R k49 49 wc w.heap.size (fun k_ => some k_ ≠ ((.slice Ao9 t101.length co9) : Value).ownBlock) (.slice Ao14 t109.length co14) t109) ∧ Aside0 (Kd.R k47 47 wc w.heap.size (fun k_ => some k_ ≠ ((.slice Ao11 t104.length co11) : Value).ownBlock) (.slice Ao17 t112.length co17) t112) ∧ Aside0 (wc.heap[gb108]? = some (.cells #[(.slice Ao9 t101.length co9), (.slice Ao11 t104.length co11)] 25 (0, 0))) ∧ Aside0 (wc.heap[gb116]? = some (.cells #[(.slice Ao14 t109.length co14), (.slice Ao17 t112.length co17)] 25 (0, 0))) ∧ Aside0 (Below w.heap.size w wc))
  case first =>
   have H := HC6.out
   clear HC6
   replace H := Option.bind_eq_some_iff.mp H
   obtain ⟨t117, A180, H⟩ := H
   replace H : (if t117 = true then (laws_FnExactNewShelf.j0 k a0 a1 t107 (t115 != t107) t101 t104 t109 t112) else (laws_FnExactNewShelf.j0 k a0 a1 t107 true t101 t104 t109 t112)) = some r := H
   have A18 := Aside0.mk A180
   clear A180
   by_cases c19 : t117 = true
   ·subst c19
    have H1 : (laws_FnExactNewShelf.j0 k a0 a1 t107 (t115 != t107) t101 t104 t109 t112) = some r := by rw [if_pos rfl] at H; exact H
    clear H
    have H := H1
    clear H1
    have H' := Aside0.mk H
    clear H
    have hnb20 := NB116_108.out
    have hnc20 := NB108_116.out
    have hcz21_0 : w13.cell? ⟨gb116, 0, none⟩ = some (.slice none 0 0) := (blk_cell BK116.out 0).trans rfl
    have hcz21_1 : w13.cell? ⟨gb116, 1, none⟩ = some (.slice none 0 0) := (blk_cell BK116.out 1).trans rfl
    have hfz21_0 := blk_frozen BK116.out 0
    have hfz21_1 := blk_frozen BK116.out 1
    have hcz22_0 : w13.cell? ⟨gb108, 0, none⟩ = some (.slice Ao9 t101.length co9) := (blk_cell BK108.out 0).trans rfl
    have hcz22_1 : w13.cell? ⟨gb108, 1, none⟩ = some (.slice Ao11 t104.length co11) := (blk_cell BK108.out 1).trans rfl
    have hfz22_0 := blk_frozen BK108.out 0
    have hfz22_1 := blk_frozen BK108.out 1
    go_wp2_with (first | ((with_reducible refine gate_callee (f := 8) rfl ?_); refine goesL_ (some 30) rfl rfl Try.func8 (by kernel_rfl) rfl #[.agg #[.slice Ao14 t109.length co14, .slice Ao17 t112.length co17], .agg #[.slice Ao9 t101.length co9, .slice Ao11 t104.length co11]] rfl (by (try simp only [List.map_toArray, List.map_cons, List.map_nil]); first | done | rfl) ?_; (with_reducible refine (laws_eqShelf.calls k _ _ t109 _ _ t112 _ _ t101 _ _ t104 true _ ?side1 ?side2 ?side3 ?side4 ?side5 ?side6 ?side7 ?side8 A18.out).mono ?_); (case side1 => refine (Kd.R_reads' (e := 49) (base := w.heap.size) (ok := fun k_ => (True ∧ some k_ ≠ (.slice Ao9 t101.length co9 : Value).ownBlock)) (n := t109.length) (c := co14) ?_).2.2; exact (by (with_reducible repeat (first | apply Kd.R_alloc | apply Kd.R_drewN | apply Kd.R_drew)); exact (Kd.R_mono (Kd.R_far (p := ⟨gb116, 1, none⟩) (Kd.R_far (p := ⟨gb116, 0, none⟩) (Kd.R_types HO111.out BK116.out (by decide)) (fun _ hk => hk.2) (.slice Ao14 t109.length co14)) (fun _ hk => hk.2) (.slice Ao17 t112.length co17)) (fun _ h_ => h_.1)))); (case side2 => exact (Kd.R_reads' HO111.out).2.1); (case side3 => refine (Kd.R_reads' (e := 47) (base := w.heap.size) (ok := fun k_ => (True ∧ some k_ ≠ (.slice Ao11 t104.length co11 : Value).ownBlock)) (n := t112.length) (c := co17) ?_).2.2; exact (by (with_reducible repeat (first | apply Kd.R_alloc | apply Kd.R_drewN | apply Kd.R_drew)); exact (Kd.R_mono (Kd.R_far (p := ⟨gb116, 1, none⟩) (Kd.R_far (p := ⟨gb116, 0, none⟩) (Kd.R_types HO114.out BK116.out (by decide)) (fun _ hk => hk.2) (.slice Ao14 t109.length co14)) (fun _ hk => hk.2) (.slice Ao17 t112.length co17)) (fun _ h_ => h_.1)))); (case side4 => exact (Kd.R_reads' HO114.out).2.1); (case side5 => refine (Kd.R_reads' (e := 49) (base := w.heap.size) (ok := fun k_ => (True ∧ some k_ ≠ (.slice Ao14 t109.length co14 : Value).ownBlock)) (n := t101.length) (c := co9) ?_).2.2; exact (by (with_reducible repeat (first | apply Kd.R_alloc | apply Kd.R_drewN | apply Kd.R_drew)); exact (Kd.R_mono (Kd.R_far (p := ⟨gb116, 1, none⟩) (Kd.R_far (p := ⟨gb116, 0, none⟩) (Kd.R_types HO103.out BK116.out (by decide)) (fun _ hk => hk.2) (.slice Ao14 t109.length co14)) (fun _ hk => hk.2) (.slice Ao17 t112.length co17)) (fun _ h_ => h_.1)))); (case side6 => exact (Kd.R_reads' HO103.out).2.1); (case side7 => refine (Kd.R_reads' (e := 47) (base := w.heap.size) (ok := fun k_ => (True ∧ some k_ ≠ (.slice Ao17 t112.length co17 : Value).ownBlock)) (n := t104.length) (c := co11) ?_).2.2; exact (by (with_reducible repeat (first | apply Kd.R_alloc | apply Kd.R_drewN | apply Kd.R_drew)); exact (Kd.R_mono (Kd.R_far (p := ⟨gb116, 1, none⟩) (Kd.R_far (p := ⟨gb116, 0, none⟩) (Kd.R_types HO106.out BK116.out (by decide)) (fun _ hk => hk.2) (.slice Ao14 t109.length co14)) (fun _ hk => hk.2) (.slice Ao17 t112.length co17)) (fun _ h_ => h_.1)))); (case side8 => exact (Kd.R_reads' HO106.out).2.1); rintro e w23 ⟨rfl, hb⟩; refine ⟨_, rfl, ?_⟩; have n0_ := Aside0.mk (Kd.R_below (by (with_reducible repeat (first | apply Kd.R_alloc | apply Kd.R_drewN | apply Kd.R_drew)); exact (Kd.R_mono (Kd.R_far (p := ⟨gb116, 1, none⟩) (Kd.R_far (p := ⟨gb116, 0, none⟩) (Kd.R_types HO103.out BK116.out (by decide)) (fun _ hk => hk.2) (.slice Ao14 t109.length co14)) (fun _ hk => hk.2) (.slice Ao17 t112.length co17)) (fun _ h_ => h_.1))) hb); have n1_ := Aside0.mk (Kd.R_below (by (with_reducible repeat (first | apply Kd.R_alloc | apply Kd.R_drewN | apply Kd.R_drew)); exact (Kd.R_mono (Kd.R_far (p := ⟨gb116, 1, none⟩) (Kd.R_far (p := ⟨gb116, 0, none⟩) (Kd.R_types HO106.out BK116.out (by decide)) (fun _ hk => hk.2) (.slice Ao14 t109.length co14)) (fun _ hk => hk.2) (.slice Ao17 t112.length co17)) (fun _ h_ => h_.1))) hb); have n2_ := Aside0.mk (Kd.R_below (by (with_reducible repeat (first | apply Kd.R_alloc | apply Kd.R_drewN | apply Kd.R_drew)); exact (Kd.R_mono (Kd.R_far (p := ⟨gb116, 1, none⟩) (Kd.R_far (p := ⟨gb116, 0, none⟩) (Kd.R_types HO111.out BK116.out (by decide)) (fun _ hk => hk.2) (.slice Ao14 t109.length co14)) (fun _ hk => hk.2) (.slice Ao17 t112.length co17)) (fun _ h_ => h_.1))) hb); have n3_ := Aside0.mk (Kd.R_below (by (with_reducible repeat (first | apply Kd.R_alloc | apply Kd.R_drewN | apply Kd.R_drew)); exact (Kd.R_mono (Kd.R_far (p := ⟨gb116, 1, none⟩) (Kd.R_far (p := ⟨gb116, 0, none⟩) (Kd.R_types HO114.out BK116.out (by decide)) (fun _ hk => hk.2) (.slice Ao14 t109.length co14)) (fun _ hk => hk.2) (.slice Ao17 t112.length co17)) (fun _ h_ => h_.1))) hb); have n4_ := Aside0.mk (blk_below (g := gb108) (o := .cells #[.slice Ao9 t101.length co9, .slice Ao11 t104.length co11] 25 (0, 0)) (by (with_reducible repeat (first | refine blk_drewN ?_ _ | refine blk_drew ?_ | refine blk_alloc ?_ _)); refine blk_far ?_ NB108_116.out _; (with_reducible repeat (first | refine blk_drewN ?_ _ | refine blk_drew ?_ | refine blk_alloc ?_ _)); refine blk_far ?_ NB108_116.out _; (with_reducible repeat (first | refine blk_drewN ?_ _ | refine blk_drew ?_ | refine blk_alloc ?_ _)); exact BK108.out) hb); have n5_ := Aside0.mk (blk_below (g := gb116) (o := .cells #[.slice Ao14 t109.length co14, .slice Ao17 t112.length co17] 25 (0, 0)) (by (with_reducible repeat (first | refine blk_drewN ?_ _ | refine blk_drew ?_ | refine blk_alloc ?_ _)); refine blk_put (cs := #[.slice Ao14 t109.length co14, .slice none 0 0]) ?_ 1 _ rfl; (with_reducible repeat (first | refine blk_drewN ?_ _ | refine blk_drew ?_ | refine blk_alloc ?_ _)); refine blk_put (cs := #[.slice none 0 0, .slice none 0 0]) ?_ 0 _ rfl; (with_reducible repeat (first | refine blk_drewN ?_ _ | refine blk_drew ?_ | refine blk_alloc ?_ _)); exact BK116.out) hb); have n6_ := Aside0.mk (below_step (by repeat (with_reducible first | exact HB.out | apply below_alloc | apply pw_below_drewN | apply below_drew1 | refine below_set ?_ GE108.out | refine below_set ?_ GE116.out)) hb); clear HO103; clear HO106; clear HO111; clear HO114; clear BK108; clear BK116; clear HB; have HO103 := n0_; have HO106 := n1_; have HO111 := n2_; have HO114 := n3_; have BK108 := n4_; have BK116 := n5_; have HB := n6_; clear n0_ n1_ n2_ n3_ n4_ n5_ n6_; (try clear hb); (try clear hk)))
    go_meet
    case rel => exact ⟨_, ((t115 != t107)), (by first | rfl | (simp; done) | (simp [*]; done)), H', ⟨by first | omega | exact Nat.le_refl _⟩, ⟨by (with_reducible repeat (first | apply Kd.R_alloc | apply Kd.R_drewN | apply Kd.R_drew)); exact Kd.R_mono HO103.out (fun _ hk => hk.2)⟩, ⟨by (with_reducible repeat (first | apply Kd.R_alloc | apply Kd.R_drewN | apply Kd.R_drew)); exact Kd.R_mono HO106.out (fun _ hk => hk.2)⟩, ⟨by (with_reducible repeat (first | apply Kd.R_alloc | apply Kd.R_drewN | apply Kd.R_drew)); exact Kd.R_mono HO111.out (fun _ hk => hk.2)⟩, ⟨by (with_reducible repeat (first | apply Kd.R_alloc | apply Kd.R_drewN | apply Kd.R_drew)); exact Kd.R_mono HO114.out (fun _ hk => hk.2)⟩, ⟨by (with_reducible repeat (first | refine blk_drewN ?_ _ | refine blk_drew ?_ | refine blk_alloc ?_ _)); exact BK108.out⟩, ⟨by (with_reducible repeat (first | refine blk_drewN ?_ _ | refine blk_drew ?_ | refine blk_alloc ?_ _)); exact BK116.out⟩, ⟨by repeat (with_reducible first | exact HB.out | apply below_alloc | apply pw_below_drewN | apply below_drew1 | refine below_set ?_ GE108.out | refine below_set ?_ GE116.out)⟩⟩
   ·replace c19 := Bool.eq_false_iff.mpr c19
    subst c19
    have H1 : (laws_FnExactNewShelf.j0 k a0 a1 t107 true t101 t104 t109 t112) = some r := by rw [if_neg (show ¬ (false = true) by decide)] at H; exact H
    clear H
    have H := H1
    clear H1
    have H' := Aside0.mk H
    clear H
    have hnb24 := NB116_108.out
    have hnc24 := NB108_116.out
    have hcz25_0 : w13.cell? ⟨gb116, 0, none⟩ = some (.slice none 0 0) := (blk_cell BK116.out 0).trans rfl
    have hcz25_1 : w13.cell? ⟨gb116, 1, none⟩ = some (.slice none 0 0) := (blk_cell BK116.out 1).trans rfl
    have hfz25_0 := blk_frozen BK116.out 0
    have hfz25_1 := blk_frozen BK116.out 1
    have hcz26_0 : w13.cell? ⟨gb108, 0, none⟩ = some (.slice Ao9 t101.length co9) := (blk_cell BK108.out 0).trans rfl
    have hcz26_1 : w13.cell? ⟨gb108, 1, none⟩ = some (.slice Ao11 t104.length co11) := (blk_cell BK108.out 1).trans rfl
    have hfz26_0 := blk_frozen BK108.out 0
    have hfz26_1 := blk_frozen BK108.out 1
    go_wp2_with (first | ((with_reducible refine gate_callee (f := 8) rfl ?_); refine goesL_ (some 30) rfl rfl Try.func8 (by kernel_rfl) rfl #[.agg #[.slice Ao14 t109.length co14, .slice Ao17 t112.length co17], .agg #[.slice Ao9 t101.length co9, .slice Ao11 t104.length co11]] rfl (by (try simp only [List.map_toArray, List.map_cons, List.map_nil]); first | done | rfl) ?_; (with_reducible refine (laws_eqShelf.calls k _ _ t109 _ _ t112 _ _ t101 _ _ t104 false _ ?side1 ?side2 ?side3 ?side4 ?side5 ?side6 ?side7 ?side8 A18.out).mono ?_); (case side1 => refine (Kd.R_reads' (e := 49) (base := w.heap.size) (ok := fun k_ => (True ∧ some k_ ≠ (.slice Ao9 t101.length co9 : Value).ownBlock)) (n := t109.length) (c := co14) ?_).2.2; exact (by (with_reducible repeat (first | apply Kd.R_alloc | apply Kd.R_drewN | apply Kd.R_drew)); exact (Kd.R_mono (Kd.R_far (p := ⟨gb116, 1, none⟩) (Kd.R_far (p := ⟨gb116, 0, none⟩) (Kd.R_types HO111.out BK116.out (by decide)) (fun _ hk => hk.2) (.slice Ao14 t109.length co14)) (fun _ hk => hk.2) (.slice Ao17 t112.length co17)) (fun _ h_ => h_.1)))); (case side2 => exact (Kd.R_reads' HO111.out).2.1); (case side3 => refine (Kd.R_reads' (e := 47) (base := w.heap.size) (ok := fun k_ => (True ∧ some k_ ≠ (.slice Ao11 t104.length co11 : Value).ownBlock)) (n := t112.length) (c := co17) ?_).2.2; exact (by (with_reducible repeat (first | apply Kd.R_alloc | apply Kd.R_drewN | apply Kd.R_drew)); exact (Kd.R_mono (Kd.R_far (p := ⟨gb116, 1, none⟩) (Kd.R_far (p := ⟨gb116, 0, none⟩) (Kd.R_types HO114.out BK116.out (by decide)) (fun _ hk => hk.2) (.slice Ao14 t109.length co14)) (fun _ hk => hk.2) (.slice Ao17 t112.length co17)) (fun _ h_ => h_.1)))); (case side4 => exact (Kd.R_reads' HO114.out).2.1); (case side5 => refine (Kd.R_reads' (e := 49) (base := w.heap.size) (ok := fun k_ => (True ∧ some k_ ≠ (.slice Ao14 t109.length co14 : Value).ownBlock)) (n := t101.length) (c := co9) ?_).2.2; exact (by (with_reducible repeat (first | apply Kd.R_alloc | apply Kd.R_drewN | apply Kd.R_drew)); exact (Kd.R_mono (Kd.R_far (p := ⟨gb116, 1, none⟩) (Kd.R_far (p := ⟨gb116, 0, none⟩) (Kd.R_types HO103.out BK116.out (by decide)) (fun _ hk => hk.2) (.slice Ao14 t109.length co14)) (fun _ hk => hk.2) (.slice Ao17 t112.length co17)) (fun _ h_ => h_.1)))); (case side6 => exact (Kd.R_reads' HO103.out).2.1); (case side7 => refine (Kd.R_reads' (e := 47) (base := w.heap.size) (ok := fun k_ => (True ∧ some k_ ≠ (.slice Ao17 t112.length co17 : Value).ownBlock)) (n := t104.length) (c := co11) ?_).2.2; exact (by (with_reducible repeat (first | apply Kd.R_alloc | apply Kd.R_drewN | apply Kd.R_drew)); exact (Kd.R_mono (Kd.R_far (p := ⟨gb116, 1, none⟩) (Kd.R_far (p := ⟨gb116, 0, none⟩) (Kd.R_types HO106.out BK116.out (by decide)) (fun _ hk => hk.2) (.slice Ao14 t109.length co14)) (fun _ hk => hk.2) (.slice Ao17 t112.length co17)) (fun _ h_ => h_.1)))); (case side8 => exact (Kd.R_reads' HO106.out).2.1); rintro e w27 ⟨rfl, hb⟩; refine ⟨_, rfl, ?_⟩; have n0_ := Aside0.mk (Kd.R_below (by (with_reducible repeat (first | apply Kd.R_alloc | apply Kd.R_drewN | apply Kd.R_drew)); exact (Kd.R_mono (Kd.R_far (p := ⟨gb116, 1, none⟩) (Kd.R_far (p := ⟨gb116, 0, none⟩) (Kd.R_types HO103.out BK116.out (by decide)) (fun _ hk => hk.2) (.slice Ao14 t109.length co14)) (fun _ hk => hk.2) (.slice Ao17 t112.length co17)) (fun _ h_ => h_.1))) hb); have n1_ := Aside0.mk (Kd.R_below (by (with_reducible repeat (first | apply Kd.R_alloc | apply Kd.R_drewN | apply Kd.R_drew)); exact (Kd.R_mono (Kd.R_far (p := ⟨gb116, 1, none⟩) (Kd.R_far (p := ⟨gb116, 0, none⟩) (Kd.R_types HO106.out BK116.out (by decide)) (fun _ hk => hk.2) (.slice Ao14 t109.length co14)) (fun _ hk => hk.2) (.slice Ao17 t112.length co17)) (fun _ h_ => h_.1))) hb); have n2_ := Aside0.mk (Kd.R_below (by (with_reducible repeat (first | apply Kd.R_alloc | apply Kd.R_drewN | apply Kd.R_drew)); exact (Kd.R_mono (Kd.R_far (p := ⟨gb116, 1, none⟩) (Kd.R_far (p := ⟨gb116, 0, none⟩) (Kd.R_types HO111.out BK116.out (by decide)) (fun _ hk => hk.2) (.slice Ao14 t109.length co14)) (fun _ hk => hk.2) (.slice Ao17 t112.length co17)) (fun _ h_ => h_.1))) hb); have n3_ := Aside0.mk (Kd.R_below (by (with_reducible repeat (first | apply Kd.R_alloc | apply Kd.R_drewN | apply Kd.R_drew)); exact (Kd.R_mono (Kd.R_far (p := ⟨gb116, 1, none⟩) (Kd.R_far (p := ⟨gb116, 0, none⟩) (Kd.R_types HO114.out BK116.out (by decide)) (fun _ hk => hk.2) (.slice Ao14 t109.length co14)) (fun _ hk => hk.2) (.slice Ao17 t112.length co17)) (fun _ h_ => h_.1))) hb); have n4_ := Aside0.mk (blk_below (g := gb108) (o := .cells #[.slice Ao9 t101.length co9, .slice Ao11 t104.length co11] 25 (0, 0)) (by (with_reducible repeat (first | refine blk_drewN ?_ _ | refine blk_drew ?_ | refine blk_alloc ?_ _)); refine blk_far ?_ NB108_116.out _; (with_reducible repeat (first | refine blk_drewN ?_ _ | refine blk_drew ?_ | refine blk_alloc ?_ _)); refine blk_far ?_ NB108_116.out _; (with_reducible repeat (first | refine blk_drewN ?_ _ | refine blk_drew ?_ | refine blk_alloc ?_ _)); exact BK108.out) hb); have n5_ := Aside0.mk (blk_below (g := gb116) (o := .cells #[.slice Ao14 t109.length co14, .slice Ao17 t112.length co17] 25 (0, 0)) (by (with_reducible repeat (first | refine blk_drewN ?_ _ | refine blk_drew ?_ | refine blk_alloc ?_ _)); refine blk_put (cs := #[.slice Ao14 t109.length co14, .slice none 0 0]) ?_ 1 _ rfl; (with_reducible repeat (first | refine blk_drewN ?_ _ | refine blk_drew ?_ | refine blk_alloc ?_ _)); refine blk_put (cs := #[.slice none 0 0, .slice none 0 0]) ?_ 0 _ rfl; (with_reducible repeat (first | refine blk_drewN ?_ _ | refine blk_drew ?_ | refine blk_alloc ?_ _)); exact BK116.out) hb); have n6_ := Aside0.mk (below_step (by repeat (with_reducible first | exact HB.out | apply below_alloc | apply pw_below_drewN | apply below_drew1 | refine below_set ?_ GE108.out | refine below_set ?_ GE116.out)) hb); clear HO103; clear HO106; clear HO111; clear HO114; clear BK108; clear BK116; clear HB; have HO103 := n0_; have HO106 := n1_; have HO111 := n2_; have HO114 := n3_; have BK108 := n4_; have BK116 := n5_; have HB := n6_; clear n0_ n1_ n2_ n3_ n4_ n5_ n6_; (try clear hb); (try clear hk)))
    go_meet
    case rel => exact ⟨_, (true), (by first | rfl | (simp; done) | (simp [*]; done)), H', ⟨by first | omega | exact Nat.le_refl _⟩, ⟨by (with_reducible repeat (first | apply Kd.R_alloc | apply Kd.R_drewN | apply Kd.R_drew)); exact Kd.R_mono HO103.out (fun _ hk => hk.2)⟩, ⟨by (with_reducible repeat (first | apply Kd.R_alloc | apply Kd.R_drewN | apply Kd.R_drew)); exact Kd.R_mono HO106.out (fun _ hk => hk.2)⟩, ⟨by (with_reducible repeat (first | apply Kd.R_alloc | apply Kd.R_drewN | apply Kd.R_drew)); exact Kd.R_mono HO111.out (fun _ hk => hk.2)⟩, ⟨by (with_reducible repeat (first | apply Kd.R_alloc | apply Kd.R_drewN | apply Kd.R_drew)); exact Kd.R_mono HO114.out (fun _ hk => hk.2)⟩, ⟨by (with_reducible repeat (first | refine blk_drewN ?_ _ | refine blk_drew ?_ | refine blk_alloc ?_ _)); exact BK108.out⟩, ⟨by (with_reducible repeat (first | refine blk_drewN ?_ _ | refine blk_drew ?_ | refine blk_alloc ?_ _)); exact BK116.out⟩, ⟨by repeat (with_reducible first | exact HB.out | apply below_alloc | apply pw_below_drewN | apply below_drew1 | refine below_set ?_ GE108.out | refine below_set ?_ GE116.out)⟩⟩
  case rest =>
   clear HC6
   try clear c1
   try clear c2
   try clear p2
   try clear c3
   try clear c3b0
   try clear c3b1
   try clear c6
   try clear c7
   try clear c8
   try clear c15
   try clear c19
   try clear c20
   try clear c24
   try clear hcz10_0
   try clear hcz10_1
   try clear hcz16_0
   try clear hcz16_1
   try clear hcz21_0
   try clear hcz21_1
   try clear hcz22_0
   try clear hcz22_1
   try clear hcz25_0
   try clear hcz25_1
   try clear hcz26_0
   try clear hcz26_1
   try clear hfz10_0
   try clear hfz10_1
   try clear hfz16_0
   try clear hfz16_1
   try clear hfz21_0
   try clear hfz21_1
   try clear hfz22_0
   try clear hfz22_1
   try clear hfz25_0
   try clear hfz25_1
   try clear hfz26_0
   try clear hfz26_1
   obtain ⟨kq, x36_5, rfl, HA, HJ5, HO_109000, HO_109001, HO_117000, HO_117001, BK108, BK116, HB⟩ := hcut
   cases kq with
   | zero => exact absurd HA.out (by simp [laws_FnExactNewShelf.j0])
   | succ kj5 =>
    have H := HA.out
    clear HA
    simp only [laws_FnExactNewShelf.j0] at H
    by_cases c28 : x36_5 = true
    ·subst c28
     have H1 : (some false) = some r := by rw [if_pos rfl] at H; exact H
     clear H
     have H := H1
     clear H1
     obtain rfl := Option.some.inj H
     go_wp2
     go_ret
     exact ⟨by first | rfl | (simp [*, errW_none, errW_some] <;> rfl), by repeat (with_reducible first | exact HB.out | apply below_alloc | apply pw_below_drewN | apply below_drew1 | refine below_set ?_ GE108.out | refine below_set ?_ GE116.out)⟩
    ·replace c28 := Bool.eq_false_iff.mpr c28
     subst c28
     have H1 : ((laws_markShelf.f kj5 t109 t112 1).bind fun bt118 => ((laws_heldShelf.f kj5 bt118.2.1 bt118.2.2 1).bind fun t121 => (if t121 < 0 then (some false) else (if t121 = bt118.1 then ((impl_NewShelf.f kj5 a0 a1).bind fun bt122 => ((laws_eqShelf.f kj5 bt122.1 bt122.2.1 t101 t104).bind fun t130 => (if t130 = true then (laws_FnExactNewShelf.j1 kj5 bt118.1 (bt122.2.2 != t107) bt118.2.1 bt118.2.2) else (laws_FnExactNewShelf.j1 kj5 bt118.1 true bt118.2.1 bt118.2.2)))) else (some false))))) = some r := by rw [if_neg (show ¬ (false = true) by decide)] at H; exact H
     clear H
     have H := H1
     clear H1
     replace H := Option.bind_eq_some_iff.mp H
     obtain ⟨⟨t118, t119, t120⟩, A290, H⟩ := H
     replace H : ((laws_heldShelf.f kj5 t119 t120 1).bind fun t121 => (if t121 < 0 then (some false) else (if t121 = t118 then ((impl_NewShelf.f kj5 a0 a1).bind fun bt122 => ((laws_eqShelf.f kj5 bt122.1 bt122.2.1 t101 t104).bind fun t130 => (if t130 = true then (laws_FnExactNewShelf.j1 kj5 t118 (bt122.2.2 != t107) t119 t120) else (laws_FnExactNewShelf.j1 kj5 t118 true t119 t120)))) else (some false)))) = some r := H
     have A29 := Aside0.mk A290
     clear A290
     replace H := Option.bind_eq_some_iff.mp H
     obtain ⟨t121, A300, H⟩ := H
     replace H : (if t121 < 0 then (some false) else (if t121 = t118 then ((impl_NewShelf.f kj5 a0 a1).bind fun bt122 => ((laws_eqShelf.f kj5 bt122.1 bt122.2.1 t101 t104).bind fun t130 => (if t130 = true then (laws_FnExactNewShelf.j1 kj5 t118 (bt122.2.2 != t107) t119 t120) else (laws_FnExactNewShelf.j1 kj5 t118 true t119 t120)))) else (some false))) = some r := H
     have A30 := Aside0.mk A300
     clear A300
     by_cases c31 : t121 < 0
     ·rw [if_pos c31] at H
      have c31b0 : decide (t121 < 0) = true := decide_eq_true c31
      clear c31
      obtain rfl := Option.some.inj H
      have hnb32 := NB116_108.out
      have hnc32 := NB108_116.out
      have hcz33_0 : wc.cell? ⟨gb116, 0, none⟩ = some (.slice Ao14 t109.length co14) := (blk_cell BK116.out 0).trans rfl
      have hcz33_1 : wc.cell? ⟨gb116, 1, none⟩ = some (.slice Ao17 t112.length co17) := (blk_cell BK116.out 1).trans rfl
      have hfz33_0 := blk_frozen BK116.out 0
      have hfz33_1 := blk_frozen BK116.out 1
      go_wp2_with (first | ((with_reducible refine gate_callee (f := 9) rfl ?_); refine goesL_ (some 39) rfl rfl Try.func9 (by kernel_rfl) rfl #[.agg #[.slice Ao14 t109.length co14, .slice Ao17 t112.length co17], .int .i64 1] rfl (by (try simp only [List.map_toArray, List.map_cons, List.map_nil]); first | done | rfl) ?_; (with_reducible refine (laws_markShelf.calls kj5 (fun k_ => some k_ = (.slice Ao14 t109.length co14 : Value).ownBlock) (.slice Ao14 t109.length co14) t109 (fun k_ => some k_ = (.slice Ao17 t112.length co17 : Value).ownBlock) (.slice Ao17 t112.length co17) t112 1 t118 t119 t120 w _ ?side1 ?side2 ?side3 A29.out).mono ?_); (case side1 => repeat (with_reducible first | exact HB.out | apply below_alloc | apply pw_below_drewN | apply below_drew1 | refine below_set ?_ GE108.out | refine below_set ?_ GE116.out)); (case side2 => exact Kd.R_tight rfl HO_117000.out); (case side3 => exact Kd.R_tight rfl HO_117001.out); rintro e w34 ⟨rfl, hy0, hy1, hb, hkp⟩; refine ⟨_, rfl, ?_⟩; have n0_ := Aside0.mk (Kd.R_mono (ok' := fun k_ => some k_ ≠ (.slice Ao14 t109.length co14 : Value).ownBlock) (Kd.R_keptB ((Kd.R_apart' HO_109000.out (Kd.R_typed HO_117001.out) (by decide))) hkp (fun k_ hk_ hs_ => Or.elim hs_ (fun e_ => (hk_.1) e_) (fun e_ => (hk_.2) e_))) (fun k_ hk_ => hk_.1.1)); have n1_ := Aside0.mk (Kd.R_mono (ok' := fun k_ => some k_ ≠ (.slice Ao17 t112.length co17 : Value).ownBlock) (Kd.R_keptB ((Kd.R_apart' HO_109001.out (Kd.R_typed HO_117000.out) (by decide))) hkp (fun k_ hk_ hs_ => Or.elim hs_ (fun e_ => (hk_.2) e_) (fun e_ => (hk_.1) e_))) (fun k_ hk_ => hk_.1.1)); have n2_ := Aside0.mk (Kd.R_reok rfl hy0 (fun k_ e_ => HO_117000.out.1 k_ e_)); have n3_ := Aside0.mk (Kd.R_reok rfl hy1 (fun k_ e_ => HO_117001.out.1 k_ e_)); have n4_ := Aside0.mk (blk_kept (by (with_reducible repeat (first | refine blk_drewN ?_ _ | refine blk_drew ?_ | refine blk_alloc ?_ _)); exact BK108.out) hkp (fun hs_ => Or.elim hs_ (fun e_ => (fun e_ => (Kd.R_ne HO_117000.out BK108.out (by decide)) e_) e_) (fun e_ => (fun e_ => (Kd.R_ne HO_117001.out BK108.out (by decide)) e_) e_))); have n5_ := Aside0.mk (blk_kept (by (with_reducible repeat (first | refine blk_drewN ?_ _ | refine blk_drew ?_ | refine blk_alloc ?_ _)); exact BK116.out) hkp (fun hs_ => Or.elim hs_ (fun e_ => (fun e_ => (Kd.R_ne HO_117000.out BK116.out (by decide)) e_) e_) (fun e_ => (fun e_ => (Kd.R_ne HO_117001.out BK116.out (by decide)) e_) e_))); have n6_ := Aside0.mk (hb); clear HO_109000; clear HO_109001; clear HO_117000; clear HO_117001; clear BK108; clear BK116; clear HB; have HO_109000 := n0_; have HO_109001 := n1_; have HO_117000 := n2_; have HO_117001 := n3_; have BK108 := n4_; have BK116 := n5_; have HB := n6_; clear n0_ n1_ n2_ n3_ n4_ n5_ n6_; (try clear hb); (try clear hkp); (try clear hy0); (try clear hy1); have hcz35_0 : w34.cell? ⟨gb116, 0, none⟩ = some (.slice Ao14 t109.length co14) := (blk_cell BK116.out 0).trans rfl; have hcz35_1 : w34.cell? ⟨gb116, 1, none⟩ = some (.slice Ao17 t112.length co17) := (blk_cell BK116.out 1).trans rfl; have hfz35_0 := blk_frozen BK116.out 0; have hfz35_1 := blk_frozen BK116.out 1) | ((with_reducible refine gate_callee (f := 10) rfl ?_); refine goesL_ (some 42) rfl rfl Try.func10 (by kernel_rfl) rfl #[.agg #[.slice Ao14 t119.length co14, .slice Ao17 t120.length co17], .int .i64 1] rfl (by (try simp only [List.map_toArray, List.map_cons, List.map_nil]); first | done | (rw [show t119.length = t109.length from (Kd.R_reads' HO_117000.out).1.symm, show t120.length = t112.length from (Kd.R_reads' HO_117001.out).1.symm] <;> rfl) | rfl | (simp only [List.length_drop, List.length_take]; rfl)) ?_; (with_reducible refine (laws_heldShelf.calls kj5 _ _ t119 _ _ t120 1 t121 _ ?side1 ?side2 ?side3 ?side4 A30.out).mono ?_); (case side1 => repeat (first | exact (Kd.R_reads' HO_117000.out).2.2 | (with_reducible refine Kd.C_alloc ?_ _) | (with_reducible refine Kd.C_drewN ?_ _) | (with_reducible refine Kd.C_drew ?_))); (case side2 => rw [show t119.length = t109.length from (Kd.R_reads' HO_117000.out).1.symm]; exact (Kd.R_reads' HO_117000.out).2.1); (case side3 => repeat (first | exact (Kd.R_reads' HO_117001.out).2.2 | (with_reducible refine Kd.C_alloc ?_ _) | (with_reducible refine Kd.C_drewN ?_ _) | (with_reducible refine Kd.C_drew ?_))); (case side4 => rw [show t120.length = t112.length from (Kd.R_reads' HO_117001.out).1.symm]; exact (Kd.R_reads' HO_117001.out).2.1); rintro e w36 ⟨rfl, hb⟩; refine ⟨_, rfl, ?_⟩; have n0_ := Aside0.mk (Kd.R_below (by (with_reducible repeat (first | apply Kd.R_alloc | apply Kd.R_drewN | apply Kd.R_drew)); exact HO_109000.out) hb); have n1_ := Aside0.mk (Kd.R_below (by (with_reducible repeat (first | apply Kd.R_alloc | apply Kd.R_drewN | apply Kd.R_drew)); exact HO_109001.out) hb); have n2_ := Aside0.mk (Kd.R_below (by (with_reducible repeat (first | apply Kd.R_alloc | apply Kd.R_drewN | apply Kd.R_drew)); exact HO_117000.out) hb); have n3_ := Aside0.mk (Kd.R_below (by (with_reducible repeat (first | apply Kd.R_alloc | apply Kd.R_drewN | apply Kd.R_drew)); exact HO_117001.out) hb); have n4_ := Aside0.mk (blk_below (g := gb108) (o := .cells #[.slice Ao9 t101.length co9, .slice Ao11 t104.length co11] 25 (0, 0)) (by (with_reducible repeat (first | refine blk_drewN ?_ _ | refine blk_drew ?_ | refine blk_alloc ?_ _)); exact BK108.out) hb); have n5_ := Aside0.mk (blk_below (g := gb116) (o := .cells #[.slice Ao14 t109.length co14, .slice Ao17 t112.length co17] 25 (0, 0)) (by (with_reducible repeat (first | refine blk_drewN ?_ _ | refine blk_drew ?_ | refine blk_alloc ?_ _)); exact BK116.out) hb); have n6_ := Aside0.mk (below_step (by repeat (with_reducible first | exact HB.out | apply below_alloc | apply pw_below_drewN | apply below_drew1 | refine below_set ?_ GE108.out | refine below_set ?_ GE116.out)) hb); clear HO_109000; clear HO_109001; clear HO_117000; clear HO_117001; clear BK108; clear BK116; clear HB; have HO_109000 := n0_; have HO_109001 := n1_; have HO_117000 := n2_; have HO_117001 := n3_; have BK108 := n4_; have BK116 := n5_; have HB := n6_; clear n0_ n1_ n2_ n3_ n4_ n5_ n6_; (try clear hb)))
      go_ret
      exact ⟨by first | rfl | (simp [*, errW_none, errW_some] <;> rfl), by repeat (with_reducible first | exact HB.out | apply below_alloc | apply pw_below_drewN | apply below_drew1 | refine below_set ?_ GE108.out | refine below_set ?_ GE116.out)⟩
     ·rw [if_neg c31] at H
      have c31b0 : decide (t121 < 0) = false := decide_eq_false c31
      clear c31
      by_cases c37 : t121 = t118
      ·rw [if_pos c37] at H
       have c37b0 : (t121 == t118) = true := beq_iff_eq.mpr c37
       have c37b1 : (t121 != t118) = false := bne_eq_false_iff_eq.mpr c37
       clear c37
       replace H := Option.bind_eq_some_iff.mp H
       obtain ⟨⟨t122, t125, t128⟩, A380, H⟩ := H
       replace H : ((laws_eqShelf.f kj5 t122 t125 t101 t104).bind fun t130 => (if t130 = true then (laws_FnExactNewShelf.j1 kj5 t118 (t128 != t107) t119 t120) else (laws_FnExactNewShelf.j1 kj5 t118 true t119 t120))) = some r := H
       have A38 := Aside0.mk A380
       clear A380
       have HC39 := Aside0.mk H
       clear H
       have hnb40 := NB116_108.out
       have hnc40 := NB108_116.out
       have hcz41_0 : wc.cell? ⟨gb116, 0, none⟩ = some (.slice Ao14 t109.length co14) := (blk_cell BK116.out 0).trans rfl
       have hcz41_1 : wc.cell? ⟨gb116, 1, none⟩ = some (.slice Ao17 t112.length co17) := (blk_cell BK116.out 1).trans rfl
       have hfz41_0 := blk_frozen BK116.out 0
       have hfz41_1 := blk_frozen BK116.out 1
       go_upto_region 16 with (first | ((with_reducible refine gate_callee (f := 9) rfl ?_); refine goesL_ (some 39) rfl rfl Try.func9 (by kernel_rfl) rfl #[.agg #[.slice Ao14 t109.length co14, .slice Ao17 t112.length co17], .int .i64 1] rfl (by (try simp only [List.map_toArray, List.map_cons, List.map_nil]); first | done | rfl) ?_; (with_reducible refine (laws_markShelf.calls kj5 (fun k_ => some k_ = (.slice Ao14 t109.length co14 : Value).ownBlock) (.slice Ao14 t109.length co14) t109 (fun k_ => some k_ = (.slice Ao17 t112.length co17 : Value).ownBlock) (.slice Ao17 t112.length co17) t112 1 t118 t119 t120 w _ ?side1 ?side2 ?side3 A29.out).mono ?_); (case side1 => repeat (with_reducible first | exact HB.out | apply below_alloc | apply pw_below_drewN | apply below_drew1 | refine below_set ?_ GE108.out | refine below_set ?_ GE116.out)); (case side2 => exact Kd.R_tight rfl HO_117000.out); (case side3 => exact Kd.R_tight rfl HO_117001.out); rintro e w42 ⟨rfl, hy0, hy1, hb, hkp⟩; refine ⟨_, rfl, ?_⟩; have n0_ := Aside0.mk (Kd.R_mono (ok' := fun k_ => some k_ ≠ (.slice Ao14 t109.length co14 : Value).ownBlock) (Kd.R_keptB ((Kd.R_apart' HO_109000.out (Kd.R_typed HO_117001.out) (by decide))) hkp (fun k_ hk_ hs_ => Or.elim hs_ (fun e_ => (hk_.1) e_) (fun e_ => (hk_.2) e_))) (fun k_ hk_ => hk_.1.1)); have n1_ := Aside0.mk (Kd.R_mono (ok' := fun k_ => some k_ ≠ (.slice Ao17 t112.length co17 : Value).ownBlock) (Kd.R_keptB ((Kd.R_apart' HO_109001.out (Kd.R_typed HO_117000.out) (by decide))) hkp (fun k_ hk_ hs_ => Or.elim hs_ (fun e_ => (hk_.2) e_) (fun e_ => (hk_.1) e_))) (fun k_ hk_ => hk_.1.1)); have n2_ := Aside0.mk (Kd.R_reok rfl hy0 (fun k_ e_ => HO_117000.out.1 k_ e_)); have n3_ := Aside0.mk (Kd.R_reok rfl hy1 (fun k_ e_ => HO_117001.out.1 k_ e_)); have n4_ := Aside0.mk (blk_kept (by (with_reducible repeat (first | refine blk_drewN ?_ _ | refine blk_drew ?_ | refine blk_alloc ?_ _)); exact BK108.out) hkp (fun hs_ => Or.elim hs_ (fun e_ => (fun e_ => (Kd.R_ne HO_117000.out BK108.out (by decide)) e_) e_) (fun e_ => (fun e_ => (Kd.R_ne HO_117001.out BK108.out (by decide)) e_) e_))); have n5_ := Aside0.mk (blk_kept (by (with_reducible repeat (first | refine blk_drewN ?_ _ | refine blk_drew ?_ | refine blk_alloc ?_ _)); exact BK116.out) hkp (fun hs_ => Or.elim hs_ (fun e_ => (fun e_ => (Kd.R_ne HO_117000.out BK116.out (by decide)) e_) e_) (fun e_ => (fun e_ => (Kd.R_ne HO_117001.out BK116.out (by decide)) e_) e_))); have n6_ := Aside0.mk (hb); clear HO_109000; clear HO_109001; clear HO_117000; clear HO_117001; clear BK108; clear BK116; clear HB; have HO_109000 := n0_; have HO_109001 := n1_; have HO_117000 := n2_; have HO_117001 := n3_; have BK108 := n4_; have BK116 := n5_; have HB := n6_; clear n0_ n1_ n2_ n3_ n4_ n5_ n6_; (try clear hb); (try clear hkp); (try clear hy0); (try clear hy1); have hcz43_0 : w42.cell? ⟨gb116, 0, none⟩ = some (.slice Ao14 t109.length co14) := (blk_cell BK116.out 0).trans rfl; have hcz43_1 : w42.cell? ⟨gb116, 1, none⟩ = some (.slice Ao17 t112.length co17) := (blk_cell BK116.out 1).trans rfl; have hfz43_0 := blk_frozen BK116.out 0; have hfz43_1 := blk_frozen BK116.out 1) | ((with_reducible refine gate_callee (f := 10) rfl ?_); refine goesL_ (some 42) rfl rfl Try.func10 (by kernel_rfl) rfl #[.agg #[.slice Ao14 t119.length co14, .slice Ao17 t120.length co17], .int .i64 1] rfl (by (try simp only [List.map_toArray, List.map_cons, List.map_nil]); first | done | (rw [show t119.length = t109.length from (Kd.R_reads' HO_117000.out).1.symm, show t120.length = t112.length from (Kd.R_reads' HO_117001.out).1.symm] <;> rfl) | rfl | (simp only [List.length_drop, List.length_take]; rfl)) ?_; (with_reducible refine (laws_heldShelf.calls kj5 _ _ t119 _ _ t120 1 t121 _ ?side1 ?side2 ?side3 ?side4 A30.out).mono ?_); (case side1 => repeat (first | exact (Kd.R_reads' HO_117000.out).2.2 | (with_reducible refine Kd.C_alloc ?_ _) | (with_reducible refine Kd.C_drewN ?_ _) | (with_reducible refine Kd.C_drew ?_))); (case side2 => rw [show t119.length = t109.length from (Kd.R_reads' HO_117000.out).1.symm]; exact (Kd.R_reads' HO_117000.out).2.1); (case side3 => repeat (first | exact (Kd.R_reads' HO_117001.out).2.2 | (with_reducible refine Kd.C_alloc ?_ _) | (with_reducible refine Kd.C_drewN ?_ _) | (with_reducible refine Kd.C_drew ?_))); (case side4 => rw [show t120.length = t112.length from (Kd.R_reads' HO_117001.out).1.symm]; exact (Kd.R_reads' HO_117001.out).2.1); rintro e w44 ⟨rfl, hb⟩; refine ⟨_, rfl, ?_⟩; have n0_ := Aside0.mk (Kd.R_below (by (with_reducible repeat (first | apply Kd.R_alloc | apply Kd.R_drewN | apply Kd.R_drew)); exact HO_109000.out) hb); have n1_ := Aside0.mk (Kd.R_below (by (with_reducible repeat (first | apply Kd.R_alloc | apply Kd.R_drewN | apply Kd.R_drew)); exact HO_109001.out) hb); have n2_ := Aside0.mk (Kd.R_below (by (with_reducible repeat (first | apply Kd.R_alloc | apply Kd.R_drewN | apply Kd.R_drew)); exact HO_117000.out) hb); have n3_ := Aside0.mk (Kd.R_below (by (with_reducible repeat (first | apply Kd.R_alloc | apply Kd.R_drewN | apply Kd.R_drew)); exact HO_117001.out) hb); have n4_ := Aside0.mk (blk_below (g := gb108) (o := .cells #[.slice Ao9 t101.length co9, .slice Ao11 t104.length co11] 25 (0, 0)) (by (with_reducible repeat (first | refine blk_drewN ?_ _ | refine blk_drew ?_ | refine blk_alloc ?_ _)); exact BK108.out) hb); have n5_ := Aside0.mk (blk_below (g := gb116) (o := .cells #[.slice Ao14 t109.length co14, .slice Ao17 t112.length co17] 25 (0, 0)) (by (with_reducible repeat (first | refine blk_drewN ?_ _ | refine blk_drew ?_ | refine blk_alloc ?_ _)); exact BK116.out) hb); have n6_ := Aside0.mk (below_step (by repeat (with_reducible first | exact HB.out | apply below_alloc | apply pw_below_drewN | apply below_drew1 | refine below_set ?_ GE108.out | refine below_set ?_ GE116.out)) hb); clear HO_109000; clear HO_109001; clear HO_117000; clear HO_117001; clear BK108; clear BK116; clear HB; have HO_109000 := n0_; have HO_109001 := n1_; have HO_117000 := n2_; have HO_117001 := n3_; have BK108 := n4_; have BK116 := n5_; have HB := n6_; clear n0_ n1_ n2_ n3_ n4_ n5_ n6_; (try clear hb)) | ((with_reducible refine gate_callee (f := 7) rfl ?_); refine goesL_ (some 51) rfl rfl Try.func7 (by kernel_rfl) rfl #[.string a0, .int .i64 a1] rfl (by (try simp only [List.map_toArray, List.map_cons, List.map_nil]); first | done | rfl) ?_; (with_reducible refine (impl_NewShelf.calls kj5 a0 a1 t122 t125 t128 _ A38.out).mono ?_); rintro e w45 ⟨v123, v126, rfl, ho0, ho1, hb⟩; refine ⟨_, rfl, ?_⟩; have n0_ := Aside0.mk (Kd.R_elder' (by (with_reducible repeat (first | apply Kd.R_alloc | apply Kd.R_drewN | apply Kd.R_drew)); exact HO_109000.out) (by first | exact Kd.N_base ho0 | exact Kd.S_base ho0 | exact Kd.R_base ho0) hb); have n1_ := Aside0.mk (Kd.R_elder' (by (with_reducible repeat (first | apply Kd.R_alloc | apply Kd.R_drewN | apply Kd.R_drew)); exact HO_109001.out) (by first | exact Kd.N_base ho1 | exact Kd.S_base ho1 | exact Kd.R_base ho1) hb); have n2_ := Aside0.mk (Kd.R_elder' (by (with_reducible repeat (first | apply Kd.R_alloc | apply Kd.R_drewN | apply Kd.R_drew)); exact HO_117000.out) (by first | exact Kd.N_base ho0 | exact Kd.S_base ho0 | exact Kd.R_base ho0) hb); have n3_ := Aside0.mk (Kd.R_elder' (by (with_reducible repeat (first | apply Kd.R_alloc | apply Kd.R_drewN | apply Kd.R_drew)); exact HO_117001.out) (by first | exact Kd.N_base ho1 | exact Kd.S_base ho1 | exact Kd.R_base ho1) hb); have n4_ := Aside0.mk (Kd.R_lower (Kd.R_new' (Kd.R_new' ho0 (Kd.R_lt (by (with_reducible repeat (first | apply Kd.R_alloc | apply Kd.R_drewN | apply Kd.R_drew)); exact HO_109000.out))) (Kd.R_lt (by (with_reducible repeat (first | apply Kd.R_alloc | apply Kd.R_drewN | apply Kd.R_drew)); exact HO_117000.out))) (below_size (by repeat (with_reducible first | exact HB.out | apply below_alloc | apply pw_below_drewN | apply below_drew1 | refine below_set ?_ GE108.out | refine below_set ?_ GE116.out)))); have n5_ := Aside0.mk (Kd.R_lower (Kd.R_new' (Kd.R_new' ho1 (Kd.R_lt (by (with_reducible repeat (first | apply Kd.R_alloc | apply Kd.R_drewN | apply Kd.R_drew)); exact HO_109001.out))) (Kd.R_lt (by (with_reducible repeat (first | apply Kd.R_alloc | apply Kd.R_drewN | apply Kd.R_drew)); exact HO_117001.out))) (below_size (by repeat (with_reducible first | exact HB.out | apply below_alloc | apply pw_below_drewN | apply below_drew1 | refine below_set ?_ GE108.out | refine below_set ?_ GE116.out)))); have n6_ := Aside0.mk (blk_below (g := gb108) (o := .cells #[.slice Ao9 t101.length co9, .slice Ao11 t104.length co11] 25 (0, 0)) (by (with_reducible repeat (first | refine blk_drewN ?_ _ | refine blk_drew ?_ | refine blk_alloc ?_ _)); exact BK108.out) hb); have n7_ := Aside0.mk (blk_below (g := gb116) (o := .cells #[.slice Ao14 t109.length co14, .slice Ao17 t112.length co17] 25 (0, 0)) (by (with_reducible repeat (first | refine blk_drewN ?_ _ | refine blk_drew ?_ | refine blk_alloc ?_ _)); exact BK116.out) hb); have n8_ := Aside0.mk (below_step (by repeat (with_reducible first | exact HB.out | apply below_alloc | apply pw_below_drewN | apply below_drew1 | refine below_set ?_ GE108.out | refine below_set ?_ GE116.out)) hb); clear HO_109000; clear HO_109001; clear HO_117000; clear HO_117001; clear BK108; clear BK116; clear HB; have HO_109000 := n0_; have HO_109001 := n1_; have HO_117000 := n2_; have HO_117001 := n3_; have HO124 := n4_; have HO127 := n5_; have BK108 := n6_; have BK116 := n7_; have HB := n8_; clear n0_ n1_ n2_ n3_ n4_ n5_ n6_ n7_ n8_; (try clear hb); (try clear ho0); (try clear ho1)) | ((with_reducible refine gate_dst (N := 11) rfl ?_); refine box_event ?hg (N := 11) ?hd (cs := #[.slice none 0 0, .slice none 0 0]) (t := 25) ?hr ?_; (case hd => rfl); (case hg => rfl); (case hr => first | (go_simp; done) | (go_simp; rfl)); intro gb129 hg w46 hbox hb; have n0_ := Aside0.mk (Kd.R_below (by (with_reducible repeat (first | apply Kd.R_alloc | apply Kd.R_drewN | apply Kd.R_drew)); exact HO_109000.out) hb); have n1_ := Aside0.mk (Kd.R_below (by (with_reducible repeat (first | apply Kd.R_alloc | apply Kd.R_drewN | apply Kd.R_drew)); exact HO_109001.out) hb); have n2_ := Aside0.mk (Kd.R_below (by (with_reducible repeat (first | apply Kd.R_alloc | apply Kd.R_drewN | apply Kd.R_drew)); exact HO_117000.out) hb); have n3_ := Aside0.mk (Kd.R_below (by (with_reducible repeat (first | apply Kd.R_alloc | apply Kd.R_drewN | apply Kd.R_drew)); exact HO_117001.out) hb); have n4_ := Aside0.mk (Kd.R_below (by (with_reducible repeat (first | apply Kd.R_alloc | apply Kd.R_drewN | apply Kd.R_drew)); exact HO124.out) hb); have n5_ := Aside0.mk (Kd.R_below (by (with_reducible repeat (first | apply Kd.R_alloc | apply Kd.R_drewN | apply Kd.R_drew)); exact HO127.out) hb); have n6_ := Aside0.mk (blk_below (g := gb108) (o := .cells #[.slice Ao9 t101.length co9, .slice Ao11 t104.length co11] 25 (0, 0)) (by (with_reducible repeat (first | refine blk_drewN ?_ _ | refine blk_drew ?_ | refine blk_alloc ?_ _)); exact BK108.out) hb); have n7_ := Aside0.mk (blk_below (g := gb116) (o := .cells #[.slice Ao14 t109.length co14, .slice Ao17 t112.length co17] 25 (0, 0)) (by (with_reducible repeat (first | refine blk_drewN ?_ _ | refine blk_drew ?_ | refine blk_alloc ?_ _)); exact BK116.out) hb); have n8_ := Aside0.mk (below_step (by repeat (with_reducible first | exact HB.out | apply below_alloc | apply pw_below_drewN | apply below_drew1 | refine below_set ?_ GE108.out | refine below_set ?_ GE116.out)) hb); have n9_ := Aside0.mk (hbox); have n10_ := Aside0.mk ((by rw [hg]; exact (below_size (by repeat (with_reducible first | exact HB.out | apply below_alloc | apply pw_below_drewN | apply below_drew1 | refine below_set ?_ GE108.out | refine below_set ?_ GE116.out))) : w.heap.size ≤ gb129)); have n11_ := Aside0.mk ((by rw [hg]; exact (below_size (by repeat (with_reducible first | exact HB.out | apply below_alloc | apply pw_below_drewN | apply below_drew1 | refine below_set ?_ GE108.out | refine below_set ?_ GE116.out))) : w.heap.size ≤ gb129)); have n12_ := Aside0.mk ((by rw [hg]; exact Nat.ne_of_lt (blk_lt (g := gb108) (o := .cells #[.slice Ao9 t101.length co9, .slice Ao11 t104.length co11] 25 (0, 0)) (by (with_reducible repeat (first | refine blk_drewN ?_ _ | refine blk_drew ?_ | refine blk_alloc ?_ _)); exact BK108.out)) : gb108 ≠ gb129)); have n13_ := Aside0.mk ((by rw [hg]; exact Nat.ne_of_gt (blk_lt (g := gb108) (o := .cells #[.slice Ao9 t101.length co9, .slice Ao11 t104.length co11] 25 (0, 0)) (by (with_reducible repeat (first | refine blk_drewN ?_ _ | refine blk_drew ?_ | refine blk_alloc ?_ _)); exact BK108.out)) : gb129 ≠ gb108)); have n14_ := Aside0.mk ((by rw [hg]; exact Nat.ne_of_lt (blk_lt (g := gb116) (o := .cells #[.slice Ao14 t109.length co14, .slice Ao17 t112.length co17] 25 (0, 0)) (by (with_reducible repeat (first | refine blk_drewN ?_ _ | refine blk_drew ?_ | refine blk_alloc ?_ _)); exact BK116.out)) : gb116 ≠ gb129)); have n15_ := Aside0.mk ((by rw [hg]; exact Nat.ne_of_gt (blk_lt (g := gb116) (o := .cells #[.slice Ao14 t109.length co14, .slice Ao17 t112.length co17] 25 (0, 0)) (by (with_reducible repeat (first | refine blk_drewN ?_ _ | refine blk_drew ?_ | refine blk_alloc ?_ _)); exact BK116.out)) : gb129 ≠ gb116)); clear HO_109000; clear HO_109001; clear HO_117000; clear HO_117001; clear HO124; clear HO127; clear BK108; clear BK116; clear HB; have HO_109000 := n0_; have HO_109001 := n1_; have HO_117000 := n2_; have HO_117001 := n3_; have HO124 := n4_; have HO127 := n5_; have BK108 := n6_; have BK116 := n7_; have HB := n8_; have BK129 := n9_; have GW129 := n10_; have GE129 := n11_; have NB108_129 := n12_; have NB129_108 := n13_; have NB116_129 := n14_; have NB129_116 := n15_; clear n0_ n1_ n2_ n3_ n4_ n5_ n6_ n7_ n8_ n9_ n10_ n11_ n12_ n13_ n14_ n15_; clear hb hbox hg; obtain ⟨Ao47, co47, eo47⟩ := Kd.R_slice HO124.out; subst eo47; have hnb48 := NB129_108.out; have hnc48 := NB108_129.out; have hnb49 := NB129_116.out; have hnc49 := NB116_129.out; have hcz50_0 : w46.cell? ⟨gb129, 0, none⟩ = some (.slice none 0 0) := (blk_cell BK129.out 0).trans rfl; have hcz50_1 : w46.cell? ⟨gb129, 1, none⟩ = some (.slice none 0 0) := (blk_cell BK129.out 1).trans rfl; have hfz50_0 := blk_frozen BK129.out 0; have hfz50_1 := blk_frozen BK129.out 1; obtain ⟨Ao51, co51, eo51⟩ := Kd.R_slice HO127.out; subst eo51))
       (try simp only [Act.put, List.setIfInBounds_toArray, List.set_cons_zero, List.set_cons_succ])
       go_cut [62] (fun v62 wc => ∃ (kq : Nat) (x62_38 : Bool), v62 = .bool x62_38 ∧ Aside0 (laws_FnExactNewShelf.j1 kq t118 x62_38 t119 t120 = some r) ∧ Aside0 (kq ≤ kj5) ∧ Aside0 (Kd.R k49 49 wc w.heap.size (fun k_ => some k_ ≠ ((.slice Ao14 t109.length co14) : Value).ownBlock ∧ some k_ ≠ ((.slice Ao47 t122.length co47) : Value).ownBlock) (.slice Ao9 t101.length co9) t101) ∧ Aside0 (Kd.R k47 47 wc w.heap.size (fun k_ => some k_ ≠ ((.slice Ao17 t112.length co17) : Value).ownBlock ∧ some k_ ≠ ((.slice Ao51 t125.length co51) : Value).ownBlock) (.slice Ao11 t104.length co11) t104) ∧ Aside0 (Kd.R k49 49 wc w.heap.size (fun k_ => some k_ ≠ ((.slice Ao9 t101.length co9) : Value).ownBlock ∧ some k_ ≠ ((.slice Ao47 t122.length co47) : Value).ownBlock) (.slice Ao14 t109.length co14) t119) ∧ Aside0 (Kd.R k47 47 wc w.heap.size (fun k_ => some k_ ≠ ((.slice Ao11 t104.length co11) : Value).ownBlock ∧ some k_ ≠ ((.slice Ao51 t125.length co51) : Value).ownBlock) (.slice Ao17 t112.length co17) t120) ∧ Aside0 (Kd.R k49 49 wc w.heap.size (fun k_ => some k_ ≠ ((.slice Ao9 t101.length co9) : Value).ownBlock ∧ some k_ ≠ ((.slice Ao14 t109.length co14) : Value).ownBlock) (.slice Ao47 t122.length co47) t122) ∧ Aside0 (Kd.R k47 47 wc w.heap.size (fun k_ => some k_ ≠ ((.slice Ao11 t104.length co11) : Value).ownBlock ∧ some k_ ≠ ((.slice Ao17 t112.length co17) : Value).ownBlock) (.slice Ao51 t125.length co51) t125) ∧ Aside0 (wc.heap[gb108]? = some (.cells #[(.slice Ao9 t101.length co9), (.slice Ao11 t104.length co11)] 25 (0, 0))) ∧ Aside0 (wc.heap[gb116]? = some (.cells #[(.slice Ao14 t109.length co14), (.slice Ao17 t112.length co17)] 25 (0, 0))) ∧ Aside0 (wc.heap[gb129]? = some (.cells #[(.slice Ao47 t122.length co47), (.slice Ao51 t125.length co51)] 25 (0, 0))) ∧ Aside0 (Below w.heap.size w wc))
       case first =>
        have H := HC39.out
        clear HC39
        replace H := Option.bind_eq_some_iff.mp H
        obtain ⟨t130, A520, H⟩ := H
        replace H : (if t130 = true then (laws_FnExactNewShelf.j1 kj5 t118 (t128 != t107) t119 t120) else (laws_FnExactNewShelf.j1 kj5 t118 true t119 t120)) = some r := H
        have A52 := Aside0.mk A520
        clear A520
        by_cases c53 : t130 = true
        ·subst c53
         have H1 : (laws_FnExactNewShelf.j1 kj5 t118 (t128 != t107) t119 t120) = some r := by rw [if_pos rfl] at H; exact H
         clear H
         have H := H1
         clear H1
         have H' := Aside0.mk H
         clear H
         have hnb54 := NB129_108.out
         have hnc54 := NB108_129.out
         have hnb55 := NB129_116.out
         have hnc55 := NB116_129.out
         have hcz56_0 : w46.cell? ⟨gb129, 0, none⟩ = some (.slice none 0 0) := (blk_cell BK129.out 0).trans rfl
         have hcz56_1 : w46.cell? ⟨gb129, 1, none⟩ = some (.slice none 0 0) := (blk_cell BK129.out 1).trans rfl
         have hfz56_0 := blk_frozen BK129.out 0
         have hfz56_1 := blk_frozen BK129.out 1
         have hnb57 := NB108_116.out
         have hnc57 := NB116_108.out
         have hcz58_0 : w46.cell? ⟨gb108, 0, none⟩ = some (.slice Ao9 t101.length co9) := (blk_cell BK108.out 0).trans rfl
         have hcz58_1 : w46.cell? ⟨gb108, 1, none⟩ = some (.slice Ao11 t104.length co11) := (blk_cell BK108.out 1).trans rfl
         have hfz58_0 := blk_frozen BK108.out 0
         have hfz58_1 := blk_frozen BK108.out 1
         go_wp2_with (first | ((with_reducible refine gate_callee (f := 8) rfl ?_); refine goesL_ (some 56) rfl rfl Try.func8 (by kernel_rfl) rfl #[.agg #[.slice Ao47 t122.length co47, .slice Ao51 t125.length co51], .agg #[.slice Ao9 t101.length co9, .slice Ao11 t104.length co11]] rfl (by (try simp only [List.map_toArray, List.map_cons, List.map_nil]); first | done | rfl) ?_; (with_reducible refine (laws_eqShelf.calls kj5 _ _ t122 _ _ t125 _ _ t101 _ _ t104 true _ ?side1 ?side2 ?side3 ?side4 ?side5 ?side6 ?side7 ?side8 A52.out).mono ?_); (case side1 => refine (Kd.R_reads' (e := 49) (base := w.heap.size) (ok := fun k_ => ((True ∧ some k_ ≠ (.slice Ao9 t101.length co9 : Value).ownBlock) ∧ some k_ ≠ (.slice Ao14 t109.length co14 : Value).ownBlock)) (n := t122.length) (c := co47) ?_).2.2; exact (by (with_reducible repeat (first | apply Kd.R_alloc | apply Kd.R_drewN | apply Kd.R_drew)); exact (Kd.R_mono (Kd.R_far (p := ⟨gb129, 1, none⟩) (Kd.R_far (p := ⟨gb129, 0, none⟩) (Kd.R_types HO124.out BK129.out (by decide)) (fun _ hk => hk.2) (.slice Ao47 t122.length co47)) (fun _ hk => hk.2) (.slice Ao51 t125.length co51)) (fun _ h_ => h_.1)))); (case side2 => exact (Kd.R_reads' HO124.out).2.1); (case side3 => refine (Kd.R_reads' (e := 47) (base := w.heap.size) (ok := fun k_ => ((True ∧ some k_ ≠ (.slice Ao11 t104.length co11 : Value).ownBlock) ∧ some k_ ≠ (.slice Ao17 t112.length co17 : Value).ownBlock)) (n := t125.length) (c := co51) ?_).2.2; exact (by (with_reducible repeat (first | apply Kd.R_alloc | apply Kd.R_drewN | apply Kd.R_drew)); exact (Kd.R_mono (Kd.R_far (p := ⟨gb129, 1, none⟩) (Kd.R_far (p := ⟨gb129, 0, none⟩) (Kd.R_types HO127.out BK129.out (by decide)) (fun _ hk => hk.2) (.slice Ao47 t122.length co47)) (fun _ hk => hk.2) (.slice Ao51 t125.length co51)) (fun _ h_ => h_.1)))); (case side4 => exact (Kd.R_reads' HO127.out).2.1); (case side5 => refine (Kd.R_reads' (e := 49) (base := w.heap.size) (ok := fun k_ => (some k_ ≠ (.slice Ao14 t109.length co14 : Value).ownBlock ∧ some k_ ≠ (.slice Ao47 t122.length co47 : Value).ownBlock)) (n := t101.length) (c := co9) ?_).2.2; exact (by (with_reducible repeat (first | apply Kd.R_alloc | apply Kd.R_drewN | apply Kd.R_drew)); exact (Kd.R_mono (Kd.R_far (p := ⟨gb129, 1, none⟩) (Kd.R_far (p := ⟨gb129, 0, none⟩) (Kd.R_types HO_109000.out BK129.out (by decide)) (fun _ hk => hk.2) (.slice Ao47 t122.length co47)) (fun _ hk => hk.2) (.slice Ao51 t125.length co51)) (fun _ h_ => h_.1)))); (case side6 => exact (Kd.R_reads' HO_109000.out).2.1); (case side7 => refine (Kd.R_reads' (e := 47) (base := w.heap.size) (ok := fun k_ => (some k_ ≠ (.slice Ao17 t112.length co17 : Value).ownBlock ∧ some k_ ≠ (.slice Ao51 t125.length co51 : Value).ownBlock)) (n := t104.length) (c := co11) ?_).2.2; exact (by (with_reducible repeat (first | apply Kd.R_alloc | apply Kd.R_drewN | apply Kd.R_drew)); exact (Kd.R_mono (Kd.R_far (p := ⟨gb129, 1, none⟩) (Kd.R_far (p := ⟨gb129, 0, none⟩) (Kd.R_types HO_109001.out BK129.out (by decide)) (fun _ hk => hk.2) (.slice Ao47 t122.length co47)) (fun _ hk => hk.2) (.slice Ao51 t125.length co51)) (fun _ h_ => h_.1)))); (case side8 => exact (Kd.R_reads' HO_109001.out).2.1); rintro e w59 ⟨rfl, hb⟩; refine ⟨_, rfl, ?_⟩; have n0_ := Aside0.mk (Kd.R_below (by (with_reducible repeat (first | apply Kd.R_alloc | apply Kd.R_drewN | apply Kd.R_drew)); exact (Kd.R_mono (Kd.R_far (p := ⟨gb129, 1, none⟩) (Kd.R_far (p := ⟨gb129, 0, none⟩) (Kd.R_types HO_109000.out BK129.out (by decide)) (fun _ hk => hk.2) (.slice Ao47 t122.length co47)) (fun _ hk => hk.2) (.slice Ao51 t125.length co51)) (fun _ h_ => h_.1))) hb); have n1_ := Aside0.mk (Kd.R_below (by (with_reducible repeat (first | apply Kd.R_alloc | apply Kd.R_drewN | apply Kd.R_drew)); exact (Kd.R_mono (Kd.R_far (p := ⟨gb129, 1, none⟩) (Kd.R_far (p := ⟨gb129, 0, none⟩) (Kd.R_types HO_109001.out BK129.out (by decide)) (fun _ hk => hk.2) (.slice Ao47 t122.length co47)) (fun _ hk => hk.2) (.slice Ao51 t125.length co51)) (fun _ h_ => h_.1))) hb); have n2_ := Aside0.mk (Kd.R_below (by (with_reducible repeat (first | apply Kd.R_alloc | apply Kd.R_drewN | apply Kd.R_drew)); exact (Kd.R_mono (Kd.R_far (p := ⟨gb129, 1, none⟩) (Kd.R_far (p := ⟨gb129, 0, none⟩) (Kd.R_types HO_117000.out BK129.out (by decide)) (fun _ hk => hk.2) (.slice Ao47 t122.length co47)) (fun _ hk => hk.2) (.slice Ao51 t125.length co51)) (fun _ h_ => h_.1))) hb); have n3_ := Aside0.mk (Kd.R_below (by (with_reducible repeat (first | apply Kd.R_alloc | apply Kd.R_drewN | apply Kd.R_drew)); exact (Kd.R_mono (Kd.R_far (p := ⟨gb129, 1, none⟩) (Kd.R_far (p := ⟨gb129, 0, none⟩) (Kd.R_types HO_117001.out BK129.out (by decide)) (fun _ hk => hk.2) (.slice Ao47 t122.length co47)) (fun _ hk => hk.2) (.slice Ao51 t125.length co51)) (fun _ h_ => h_.1))) hb); have n4_ := Aside0.mk (Kd.R_below (by (with_reducible repeat (first | apply Kd.R_alloc | apply Kd.R_drewN | apply Kd.R_drew)); exact (Kd.R_mono (Kd.R_far (p := ⟨gb129, 1, none⟩) (Kd.R_far (p := ⟨gb129, 0, none⟩) (Kd.R_types HO124.out BK129.out (by decide)) (fun _ hk => hk.2) (.slice Ao47 t122.length co47)) (fun _ hk => hk.2) (.slice Ao51 t125.length co51)) (fun _ h_ => h_.1))) hb); have n5_ := Aside0.mk (Kd.R_below (by (with_reducible repeat (first | apply Kd.R_alloc | apply Kd.R_drewN | apply Kd.R_drew)); exact (Kd.R_mono (Kd.R_far (p := ⟨gb129, 1, none⟩) (Kd.R_far (p := ⟨gb129, 0, none⟩) (Kd.R_types HO127.out BK129.out (by decide)) (fun _ hk => hk.2) (.slice Ao47 t122.length co47)) (fun _ hk => hk.2) (.slice Ao51 t125.length co51)) (fun _ h_ => h_.1))) hb); have n6_ := Aside0.mk (blk_below (g := gb108) (o := .cells #[.slice Ao9 t101.length co9, .slice Ao11 t104.length co11] 25 (0, 0)) (by (with_reducible repeat (first | refine blk_drewN ?_ _ | refine blk_drew ?_ | refine blk_alloc ?_ _)); refine blk_far ?_ NB108_129.out _; (with_reducible repeat (first | refine blk_drewN ?_ _ | refine blk_drew ?_ | refine blk_alloc ?_ _)); refine blk_far ?_ NB108_129.out _; (with_reducible repeat (first | refine blk_drewN ?_ _ | refine blk_drew ?_ | refine blk_alloc ?_ _)); exact BK108.out) hb); have n7_ := Aside0.mk (blk_below (g := gb116) (o := .cells #[.slice Ao14 t109.length co14, .slice Ao17 t112.length co17] 25 (0, 0)) (by (with_reducible repeat (first | refine blk_drewN ?_ _ | refine blk_drew ?_ | refine blk_alloc ?_ _)); refine blk_far ?_ NB116_129.out _; (with_reducible repeat (first | refine blk_drewN ?_ _ | refine blk_drew ?_ | refine blk_alloc ?_ _)); refine blk_far ?_ NB116_129.out _; (with_reducible repeat (first | refine blk_drewN ?_ _ | refine blk_drew ?_ | refine blk_alloc ?_ _)); exact BK116.out) hb); have n8_ := Aside0.mk (blk_below (g := gb129) (o := .cells #[.slice Ao47 t122.length co47, .slice Ao51 t125.length co51] 25 (0, 0)) (by (with_reducible repeat (first | refine blk_drewN ?_ _ | refine blk_drew ?_ | refine blk_alloc ?_ _)); refine blk_put (cs := #[.slice Ao47 t122.length co47, .slice none 0 0]) ?_ 1 _ rfl; (with_reducible repeat (first | refine blk_drewN ?_ _ | refine blk_drew ?_ | refine blk_alloc ?_ _)); refine blk_put (cs := #[.slice none 0 0, .slice none 0 0]) ?_ 0 _ rfl; (with_reducible repeat (first | refine blk_drewN ?_ _ | refine blk_drew ?_ | refine blk_alloc ?_ _)); exact BK129.out) hb); have n9_ := Aside0.mk (below_step (by repeat (with_reducible first | exact HB.out | apply below_alloc | apply pw_below_drewN | apply below_drew1 | refine below_set ?_ GE108.out | refine below_set ?_ GE116.out | refine below_set ?_ GE129.out)) hb); clear HO_109000; clear HO_109001; clear HO_117000; clear HO_117001; clear HO124; clear HO127; clear BK108; clear BK116; clear BK129; clear HB; have HO_109000 := n0_; have HO_109001 := n1_; have HO_117000 := n2_; have HO_117001 := n3_; have HO124 := n4_; have HO127 := n5_; have BK108 := n6_; have BK116 := n7_; have BK129 := n8_; have HB := n9_; clear n0_ n1_ n2_ n3_ n4_ n5_ n6_ n7_ n8_ n9_; (try clear hb); (try clear hk)))
         go_meet
         case rel => exact ⟨_, ((t128 != t107)), (by first | rfl | (simp; done) | (simp [*]; done)), H', ⟨by have := HJ5.out; first | omega | exact Nat.le_refl _⟩, ⟨by (with_reducible repeat (first | apply Kd.R_alloc | apply Kd.R_drewN | apply Kd.R_drew)); exact HO_109000.out⟩, ⟨by (with_reducible repeat (first | apply Kd.R_alloc | apply Kd.R_drewN | apply Kd.R_drew)); exact HO_109001.out⟩, ⟨by (with_reducible repeat (first | apply Kd.R_alloc | apply Kd.R_drewN | apply Kd.R_drew)); exact HO_117000.out⟩, ⟨by (with_reducible repeat (first | apply Kd.R_alloc | apply Kd.R_drewN | apply Kd.R_drew)); exact HO_117001.out⟩, ⟨by (with_reducible repeat (first | apply Kd.R_alloc | apply Kd.R_drewN | apply Kd.R_drew)); exact Kd.R_mono HO124.out (fun _ hk => ⟨hk.1.2, hk.2⟩)⟩, ⟨by (with_reducible repeat (first | apply Kd.R_alloc | apply Kd.R_drewN | apply Kd.R_drew)); exact Kd.R_mono HO127.out (fun _ hk => ⟨hk.1.2, hk.2⟩)⟩, ⟨by (with_reducible repeat (first | refine blk_drewN ?_ _ | refine blk_drew ?_ | refine blk_alloc ?_ _)); exact BK108.out⟩, ⟨by (with_reducible repeat (first | refine blk_drewN ?_ _ | refine blk_drew ?_ | refine blk_alloc ?_ _)); exact BK116.out⟩, ⟨by (with_reducible repeat (first | refine blk_drewN ?_ _ | refine blk_drew ?_ | refine blk_alloc ?_ _)); exact BK129.out⟩, ⟨by repeat (with_reducible first | exact HB.out | apply below_alloc | apply pw_below_drewN | apply below_drew1 | refine below_set ?_ GE108.out | refine below_set ?_ GE116.out | refine below_set ?_ GE129.out)⟩⟩
        ·replace c53 := Bool.eq_false_iff.mpr c53
         subst c53
         have H1 : (laws_FnExactNewShelf.j1 kj5 t118 true t119 t120) = some r := by rw [if_neg (show ¬ (false = true) by decide)] at H; exact H
         clear H
         have H := H1
         clear H1
         have H' := Aside0.mk H
         clear H
         have hnb60 := NB129_108.out
         have hnc60 := NB108_129.out
         have hnb61 := NB129_116.out
         have hnc61 := NB116_129.out
         have hcz62_0 : w46.cell? ⟨gb129, 0, none⟩ = some (.slice none 0 0) := (blk_cell BK129.out 0).trans rfl
         have hcz62_1 : w46.cell? ⟨gb129, 1, none⟩ = some (.slice none 0 0) := (blk_cell BK129.out 1).trans rfl
         have hfz62_0 := blk_frozen BK129.out 0
         have hfz62_1 := blk_frozen BK129.out 1
         have hnb63 := NB108_116.out
         have hnc63 := NB116_108.out
         have hcz64_0 : w46.cell? ⟨gb108, 0, none⟩ = some (.slice Ao9 t101.length co9) := (blk_cell BK108.out 0).trans rfl
         have hcz64_1 : w46.cell? ⟨gb108, 1, none⟩ = some (.slice Ao11 t104.length co11) := (blk_cell BK108.out 1).trans rfl
         have hfz64_0 := blk_frozen BK108.out 0
         have hfz64_1 := blk_frozen BK108.out 1
         go_wp2_with (first | ((with_reducible refine gate_callee (f := 8) rfl ?_); refine goesL_ (some 56) rfl rfl Try.func8 (by kernel_rfl) rfl #[.agg #[.slice Ao47 t122.length co47, .slice Ao51 t125.length co51], .agg #[.slice Ao9 t101.length co9, .slice Ao11 t104.length co11]] rfl (by (try simp only [List.map_toArray, List.map_cons, List.map_nil]); first | done | rfl) ?_; (with_reducible refine (laws_eqShelf.calls kj5 _ _ t122 _ _ t125 _ _ t101 _ _ t104 false _ ?side1 ?side2 ?side3 ?side4 ?side5 ?side6 ?side7 ?side8 A52.out).mono ?_); (case side1 => refine (Kd.R_reads' (e := 49) (base := w.heap.size) (ok := fun k_ => ((True ∧ some k_ ≠ (.slice Ao9 t101.length co9 : Value).ownBlock) ∧ some k_ ≠ (.slice Ao14 t109.length co14 : Value).ownBlock)) (n := t122.length) (c := co47) ?_).2.2; exact (by (with_reducible repeat (first | apply Kd.R_alloc | apply Kd.R_drewN | apply Kd.R_drew)); exact (Kd.R_mono (Kd.R_far (p := ⟨gb129, 1, none⟩) (Kd.R_far (p := ⟨gb129, 0, none⟩) (Kd.R_types HO124.out BK129.out (by decide)) (fun _ hk => hk.2) (.slice Ao47 t122.length co47)) (fun _ hk => hk.2) (.slice Ao51 t125.length co51)) (fun _ h_ => h_.1)))); (case side2 => exact (Kd.R_reads' HO124.out).2.1); (case side3 => refine (Kd.R_reads' (e := 47) (base := w.heap.size) (ok := fun k_ => ((True ∧ some k_ ≠ (.slice Ao11 t104.length co11 : Value).ownBlock) ∧ some k_ ≠ (.slice Ao17 t112.length co17 : Value).ownBlock)) (n := t125.length) (c := co51) ?_).2.2; exact (by (with_reducible repeat (first | apply Kd.R_alloc | apply Kd.R_drewN | apply Kd.R_drew)); exact (Kd.R_mono (Kd.R_far (p := ⟨gb129, 1, none⟩) (Kd.R_far (p := ⟨gb129, 0, none⟩) (Kd.R_types HO127.out BK129.out (by decide)) (fun _ hk => hk.2) (.slice Ao47 t122.length co47)) (fun _ hk => hk.2) (.slice Ao51 t125.length co51)) (fun _ h_ => h_.1)))); (case side4 => exact (Kd.R_reads' HO127.out).2.1); (case side5 => refine (Kd.R_reads' (e := 49) (base := w.heap.size) (ok := fun k_ => (some k_ ≠ (.slice Ao14 t109.length co14 : Value).ownBlock ∧ some k_ ≠ (.slice Ao47 t122.length co47 : Value).ownBlock)) (n := t101.length) (c := co9) ?_).2.2; exact (by (with_reducible repeat (first | apply Kd.R_alloc | apply Kd.R_drewN | apply Kd.R_drew)); exact (Kd.R_mono (Kd.R_far (p := ⟨gb129, 1, none⟩) (Kd.R_far (p := ⟨gb129, 0, none⟩) (Kd.R_types HO_109000.out BK129.out (by decide)) (fun _ hk => hk.2) (.slice Ao47 t122.length co47)) (fun _ hk => hk.2) (.slice Ao51 t125.length co51)) (fun _ h_ => h_.1)))); (case side6 => exact (Kd.R_reads' HO_109000.out).2.1); (case side7 => refine (Kd.R_reads' (e := 47) (base := w.heap.size) (ok := fun k_ => (some k_ ≠ (.slice Ao17 t112.length co17 : Value).ownBlock ∧ some k_ ≠ (.slice Ao51 t125.length co51 : Value).ownBlock)) (n := t104.length) (c := co11) ?_).2.2; exact (by (with_reducible repeat (first | apply Kd.R_alloc | apply Kd.R_drewN | apply Kd.R_drew)); exact (Kd.R_mono (Kd.R_far (p := ⟨gb129, 1, none⟩) (Kd.R_far (p := ⟨gb129, 0, none⟩) (Kd.R_types HO_109001.out BK129.out (by decide)) (fun _ hk => hk.2) (.slice Ao47 t122.length co47)) (fun _ hk => hk.2) (.slice Ao51 t125.length co51)) (fun _ h_ => h_.1)))); (case side8 => exact (Kd.R_reads' HO_109001.out).2.1); rintro e w65 ⟨rfl, hb⟩; refine ⟨_, rfl, ?_⟩; have n0_ := Aside0.mk (Kd.R_below (by (with_reducible repeat (first | apply Kd.R_alloc | apply Kd.R_drewN | apply Kd.R_drew)); exact (Kd.R_mono (Kd.R_far (p := ⟨gb129, 1, none⟩) (Kd.R_far (p := ⟨gb129, 0, none⟩) (Kd.R_types HO_109000.out BK129.out (by decide)) (fun _ hk => hk.2) (.slice Ao47 t122.length co47)) (fun _ hk => hk.2) (.slice Ao51 t125.length co51)) (fun _ h_ => h_.1))) hb); have n1_ := Aside0.mk (Kd.R_below (by (with_reducible repeat (first | apply Kd.R_alloc | apply Kd.R_drewN | apply Kd.R_drew)); exact (Kd.R_mono (Kd.R_far (p := ⟨gb129, 1, none⟩) (Kd.R_far (p := ⟨gb129, 0, none⟩) (Kd.R_types HO_109001.out BK129.out (by decide)) (fun _ hk => hk.2) (.slice Ao47 t122.length co47)) (fun _ hk => hk.2) (.slice Ao51 t125.length co51)) (fun _ h_ => h_.1))) hb); have n2_ := Aside0.mk (Kd.R_below (by (with_reducible repeat (first | apply Kd.R_alloc | apply Kd.R_drewN | apply Kd.R_drew)); exact (Kd.R_mono (Kd.R_far (p := ⟨gb129, 1, none⟩) (Kd.R_far (p := ⟨gb129, 0, none⟩) (Kd.R_types HO_117000.out BK129.out (by decide)) (fun _ hk => hk.2) (.slice Ao47 t122.length co47)) (fun _ hk => hk.2) (.slice Ao51 t125.length co51)) (fun _ h_ => h_.1))) hb); have n3_ := Aside0.mk (Kd.R_below (by (with_reducible repeat (first | apply Kd.R_alloc | apply Kd.R_drewN | apply Kd.R_drew)); exact (Kd.R_mono (Kd.R_far (p := ⟨gb129, 1, none⟩) (Kd.R_far (p := ⟨gb129, 0, none⟩) (Kd.R_types HO_117001.out BK129.out (by decide)) (fun _ hk => hk.2) (.slice Ao47 t122.length co47)) (fun _ hk => hk.2) (.slice Ao51 t125.length co51)) (fun _ h_ => h_.1))) hb); have n4_ := Aside0.mk (Kd.R_below (by (with_reducible repeat (first | apply Kd.R_alloc | apply Kd.R_drewN | apply Kd.R_drew)); exact (Kd.R_mono (Kd.R_far (p := ⟨gb129, 1, none⟩) (Kd.R_far (p := ⟨gb129, 0, none⟩) (Kd.R_types HO124.out BK129.out (by decide)) (fun _ hk => hk.2) (.slice Ao47 t122.length co47)) (fun _ hk => hk.2) (.slice Ao51 t125.length co51)) (fun _ h_ => h_.1))) hb); have n5_ := Aside0.mk (Kd.R_below (by (with_reducible repeat (first | apply Kd.R_alloc | apply Kd.R_drewN | apply Kd.R_drew)); exact (Kd.R_mono (Kd.R_far (p := ⟨gb129, 1, none⟩) (Kd.R_far (p := ⟨gb129, 0, none⟩) (Kd.R_types HO127.out BK129.out (by decide)) (fun _ hk => hk.2) (.slice Ao47 t122.length co47)) (fun _ hk => hk.2) (.slice Ao51 t125.length co51)) (fun _ h_ => h_.1))) hb); have n6_ := Aside0.mk (blk_below (g := gb108) (o := .cells #[.slice Ao9 t101.length co9, .slice Ao11 t104.length co11] 25 (0, 0)) (by (with_reducible repeat (first | refine blk_drewN ?_ _ | refine blk_drew ?_ | refine blk_alloc ?_ _)); refine blk_far ?_ NB108_129.out _; (with_reducible repeat (first | refine blk_drewN ?_ _ | refine blk_drew ?_ | refine blk_alloc ?_ _)); refine blk_far ?_ NB108_129.out _; (with_reducible repeat (first | refine blk_drewN ?_ _ | refine blk_drew ?_ | refine blk_alloc ?_ _)); exact BK108.out) hb); have n7_ := Aside0.mk (blk_below (g := gb116) (o := .cells #[.slice Ao14 t109.length co14, .slice Ao17 t112.length co17] 25 (0, 0)) (by (with_reducible repeat (first | refine blk_drewN ?_ _ | refine blk_drew ?_ | refine blk_alloc ?_ _)); refine blk_far ?_ NB116_129.out _; (with_reducible repeat (first | refine blk_drewN ?_ _ | refine blk_drew ?_ | refine blk_alloc ?_ _)); refine blk_far ?_ NB116_129.out _; (with_reducible repeat (first | refine blk_drewN ?_ _ | refine blk_drew ?_ | refine blk_alloc ?_ _)); exact BK116.out) hb); have n8_ := Aside0.mk (blk_below (g := gb129) (o := .cells #[.slice Ao47 t122.length co47, .slice Ao51 t125.length co51] 25 (0, 0)) (by (with_reducible repeat (first | refine blk_drewN ?_ _ | refine blk_drew ?_ | refine blk_alloc ?_ _)); refine blk_put (cs := #[.slice Ao47 t122.length co47, .slice none 0 0]) ?_ 1 _ rfl; (with_reducible repeat (first | refine blk_drewN ?_ _ | refine blk_drew ?_ | refine blk_alloc ?_ _)); refine blk_put (cs := #[.slice none 0 0, .slice none 0 0]) ?_ 0 _ rfl; (with_reducible repeat (first | refine blk_drewN ?_ _ | refine blk_drew ?_ | refine blk_alloc ?_ _)); exact BK129.out) hb); have n9_ := Aside0.mk (below_step (by repeat (with_reducible first | exact HB.out | apply below_alloc | apply pw_below_drewN | apply below_drew1 | refine below_set ?_ GE108.out | refine below_set ?_ GE116.out | refine below_set ?_ GE129.out)) hb); clear HO_109000; clear HO_109001; clear HO_117000; clear HO_117001; clear HO124; clear HO127; clear BK108; clear BK116; clear BK129; clear HB; have HO_109000 := n0_; have HO_109001 := n1_; have HO_117000 := n2_; have HO_117001 := n3_; have HO124 := n4_; have HO127 := n5_; have BK108 := n6_; have BK116 := n7_; have BK129 := n8_; have HB := n9_; clear n0_ n1_ n2_ n3_ n4_ n5_ n6_ n7_ n8_ n9_; (try clear hb); (try clear hk)))
         go_meet
         case rel => exact ⟨_, (true), (by first | rfl | (simp; done) | (simp [*]; done)), H', ⟨by have := HJ5.out; first | omega | exact Nat.le_refl _⟩, ⟨by (with_reducible repeat (first | apply Kd.R_alloc | apply Kd.R_drewN | apply Kd.R_drew)); exact HO_109000.out⟩, ⟨by (with_reducible repeat (first | apply Kd.R_alloc | apply Kd.R_drewN | apply Kd.R_drew)); exact HO_109001.out⟩, ⟨by (with_reducible repeat (first | apply Kd.R_alloc | apply Kd.R_drewN | apply Kd.R_drew)); exact HO_117000.out⟩, ⟨by (with_reducible repeat (first | apply Kd.R_alloc | apply Kd.R_drewN | apply Kd.R_drew)); exact HO_117001.out⟩, ⟨by (with_reducible repeat (first | apply Kd.R_alloc | apply Kd.R_drewN | apply Kd.R_drew)); exact Kd.R_mono HO124.out (fun _ hk => ⟨hk.1.2, hk.2⟩)⟩, ⟨by (with_reducible repeat (first | apply Kd.R_alloc | apply Kd.R_drewN | apply Kd.R_drew)); exact Kd.R_mono HO127.out (fun _ hk => ⟨hk.1.2, hk.2⟩)⟩, ⟨by (with_reducible repeat (first | refine blk_drewN ?_ _ | refine blk_drew ?_ | refine blk_alloc ?_ _)); exact BK108.out⟩, ⟨by (with_reducible repeat (first | refine blk_drewN ?_ _ | refine blk_drew ?_ | refine blk_alloc ?_ _)); exact BK116.out⟩, ⟨by (with_reducible repeat (first | refine blk_drewN ?_ _ | refine blk_drew ?_ | refine blk_alloc ?_ _)); exact BK129.out⟩, ⟨by repeat (with_reducible first | exact HB.out | apply below_alloc | apply pw_below_drewN | apply below_drew1 | refine below_set ?_ GE108.out | refine below_set ?_ GE116.out | refine below_set ?_ GE129.out)⟩⟩
       case rest =>
        clear HC39
        try clear c1
        try clear c2
        try clear p2
        try clear c3
        try clear c3b0
        try clear c3b1
        try clear c4
        try clear c5
        try clear c6
        try clear c7
        try clear c8
        try clear c9
        try clear c10
        try clear c15
        try clear c19
        try clear c20
        try clear c24
        try clear c28
        try clear c31
        try clear c31b0
        try clear c32
        try clear c37
        try clear c37b0
        try clear c37b1
        try clear c40
        try clear c48
        try clear c49
        try clear c53
        try clear c54
        try clear c55
        try clear c57
        try clear c60
        try clear c61
        try clear c63
        try clear hcz10_0
        try clear hcz10_1
        try clear hcz16_0
        try clear hcz16_1
        try clear hcz21_0
        try clear hcz21_1
        try clear hcz22_0
        try clear hcz22_1
        try clear hcz25_0
        try clear hcz25_1
        try clear hcz26_0
        try clear hcz26_1
        try clear hcz33_0
        try clear hcz33_1
        try clear hcz35_0
        try clear hcz35_1
        try clear hcz41_0
        try clear hcz41_1
        try clear hcz43_0
        try clear hcz43_1
        try clear hcz50_0
        try clear hcz50_1
        try clear hcz56_0
        try clear hcz56_1
        try clear hcz58_0
        try clear hcz58_1
        try clear hcz62_0
        try clear hcz62_1
        try clear hcz64_0
        try clear hcz64_1
        try clear hfz10_0
        try clear hfz10_1
        try clear hfz16_0
        try clear hfz16_1
        try clear hfz21_0
        try clear hfz21_1
        try clear hfz22_0
        try clear hfz22_1
        try clear hfz25_0
        try clear hfz25_1
        try clear hfz26_0
        try clear hfz26_1
        try clear hfz33_0
        try clear hfz33_1
        try clear hfz35_0
        try clear hfz35_1
        try clear hfz41_0
        try clear hfz41_1
        try clear hfz43_0
        try clear hfz43_1
        try clear hfz50_0
        try clear hfz50_1
        try clear hfz56_0
        try clear hfz56_1
        try clear hfz58_0
        try clear hfz58_1
        try clear hfz62_0
        try clear hfz62_1
        try clear hfz64_0
        try clear hfz64_1
        obtain ⟨kq, x62_38, rfl, HA, HJ38, HO_109000, HO_109001, HO_117000, HO_117001, HO_130000, HO_130001, BK108, BK116, BK129, HB⟩ := hcut
        have hl117000_38 := (Kd.R_reads' HO_117000.out).1
        rw [hl117000_38] at HO_117000
        (try simp only [hl117000_38])
        (try simp only [hl117000_38] at BK108)
        (try simp only [hl117000_38] at BK116)
        (try simp only [hl117000_38] at BK129)
        (try simp only [hl117000_38] at HO_109000)
        (try simp only [hl117000_38] at HO_109001)
        (try simp only [hl117000_38] at HO_117001)
        (try simp only [hl117000_38] at HO_130000)
        (try simp only [hl117000_38] at HO_130001)
        have hl117001_38 := (Kd.R_reads' HO_117001.out).1
        rw [hl117001_38] at HO_117001
        (try simp only [hl117001_38])
        (try simp only [hl117001_38] at BK108)
        (try simp only [hl117001_38] at BK116)
        (try simp only [hl117001_38] at BK129)
        (try simp only [hl117001_38] at HO_109000)
        (try simp only [hl117001_38] at HO_109001)
        (try simp only [hl117001_38] at HO_117000)
        (try simp only [hl117001_38] at HO_130000)
        (try simp only [hl117001_38] at HO_130001)
        cases kq with
        | zero => exact absurd HA.out (by simp [laws_FnExactNewShelf.j1])
        | succ kj38 =>
         have H := HA.out
         clear HA
         simp only [laws_FnExactNewShelf.j1] at H
         by_cases c66 : x62_38 = true
         ·subst c66
          have H1 : (some false) = some r := by rw [if_pos rfl] at H; exact H
          clear H
          have H := H1
          clear H1
          obtain rfl := Option.some.inj H
          go_wp2
          go_ret
          exact ⟨by first | rfl | (simp [*, errW_none, errW_some] <;> rfl), by repeat (with_reducible first | exact HB.out | apply below_alloc | apply pw_below_drewN | apply below_drew1 | refine below_set ?_ GE108.out | refine below_set ?_ GE116.out | refine below_set ?_ GE129.out)⟩
         ·replace c66 := Bool.eq_false_iff.mpr c66
          subst c66
          have H1 : ((laws_heldShelf.f kj38 t119 t120 1).bind fun t131 => (if t131 < 0 then (some false) else (if t131 = t118 then (some true) else (some false)))) = some r := by rw [if_neg (show ¬ (false = true) by decide)] at H; exact H
          clear H
          have H := H1
          clear H1
          replace H := Option.bind_eq_some_iff.mp H
          obtain ⟨t131, A670, H⟩ := H
          replace H : (if t131 < 0 then (some false) else (if t131 = t118 then (some true) else (some false))) = some r := H
          have A67 := Aside0.mk A670
          clear A670
          by_cases c68 : t131 < 0
          ·rw [if_pos c68] at H
           have c68b0 : decide (t131 < 0) = true := decide_eq_true c68
           clear c68
           obtain rfl := Option.some.inj H
           have hnb69 := NB116_108.out
           have hnc69 := NB108_116.out
           have hnb70 := NB116_129.out
           have hnc70 := NB129_116.out
           have hcz71_0 : wc.cell? ⟨gb116, 0, none⟩ = some (.slice Ao14 t119.length co14) := (blk_cell BK116.out 0).trans rfl
           have hcz71_1 : wc.cell? ⟨gb116, 1, none⟩ = some (.slice Ao17 t120.length co17) := (blk_cell BK116.out 1).trans rfl
           have hfz71_0 := blk_frozen BK116.out 0
           have hfz71_1 := blk_frozen BK116.out 1
           go_wp2_with (first | ((with_reducible refine gate_callee (f := 10) rfl ?_); refine goesL_ (some 65) rfl rfl Try.func10 (by kernel_rfl) rfl #[.agg #[.slice Ao14 t119.length co14, .slice Ao17 t120.length co17], .int .i64 1] rfl (by (try simp only [List.map_toArray, List.map_cons, List.map_nil]); first | done | rfl) ?_; (with_reducible refine (laws_heldShelf.calls kj38 _ _ t119 _ _ t120 1 t131 _ ?side1 ?side2 ?side3 ?side4 A67.out).mono ?_); (case side1 => repeat (first | exact (Kd.R_reads' HO_117000.out).2.2 | (with_reducible refine Kd.C_alloc ?_ _) | (with_reducible refine Kd.C_drewN ?_ _) | (with_reducible refine Kd.C_drew ?_))); (case side2 => exact (Kd.R_reads' HO_117000.out).2.1); (case side3 => repeat (first | exact (Kd.R_reads' HO_117001.out).2.2 | (with_reducible refine Kd.C_alloc ?_ _) | (with_reducible refine Kd.C_drewN ?_ _) | (with_reducible refine Kd.C_drew ?_))); (case side4 => exact (Kd.R_reads' HO_117001.out).2.1); rintro e w72 ⟨rfl, hb⟩; refine ⟨_, rfl, ?_⟩; have n0_ := Aside0.mk (Kd.R_below (by (with_reducible repeat (first | apply Kd.R_alloc | apply Kd.R_drewN | apply Kd.R_drew)); exact HO_109000.out) hb); have n1_ := Aside0.mk (Kd.R_below (by (with_reducible repeat (first | apply Kd.R_alloc | apply Kd.R_drewN | apply Kd.R_drew)); exact HO_109001.out) hb); have n2_ := Aside0.mk (Kd.R_below (by (with_reducible repeat (first | apply Kd.R_alloc | apply Kd.R_drewN | apply Kd.R_drew)); exact HO_117000.out) hb); have n3_ := Aside0.mk (Kd.R_below (by (with_reducible repeat (first | apply Kd.R_alloc | apply Kd.R_drewN | apply Kd.R_drew)); exact HO_117001.out) hb); have n4_ := Aside0.mk (Kd.R_below (by (with_reducible repeat (first | apply Kd.R_alloc | apply Kd.R_drewN | apply Kd.R_drew)); exact HO_130000.out) hb); have n5_ := Aside0.mk (Kd.R_below (by (with_reducible repeat (first | apply Kd.R_alloc | apply Kd.R_drewN | apply Kd.R_drew)); exact HO_130001.out) hb); have n6_ := Aside0.mk (blk_below (g := gb108) (o := .cells #[.slice Ao9 t101.length co9, .slice Ao11 t104.length co11] 25 (0, 0)) (by (with_reducible repeat (first | refine blk_drewN ?_ _ | refine blk_drew ?_ | refine blk_alloc ?_ _)); exact BK108.out) hb); have n7_ := Aside0.mk (blk_below (g := gb116) (o := .cells #[.slice Ao14 t119.length co14, .slice Ao17 t120.length co17] 25 (0, 0)) (by (with_reducible repeat (first | refine blk_drewN ?_ _ | refine blk_drew ?_ | refine blk_alloc ?_ _)); exact BK116.out) hb); have n8_ := Aside0.mk (blk_below (g := gb129) (o := .cells #[.slice Ao47 t122.length co47, .slice Ao51 t125.length co51] 25 (0, 0)) (by (with_reducible repeat (first | refine blk_drewN ?_ _ | refine blk_drew ?_ | refine blk_alloc ?_ _)); exact BK129.out) hb); have n9_ := Aside0.mk (below_step (by repeat (with_reducible first | exact HB.out | apply below_alloc | apply pw_below_drewN | apply below_drew1 | refine below_set ?_ GE108.out | refine below_set ?_ GE116.out | refine below_set ?_ GE129.out)) hb); clear HO_109000; clear HO_109001; clear HO_117000; clear HO_117001; clear HO_130000; clear HO_130001; clear BK108; clear BK116; clear BK129; clear HB; have HO_109000 := n0_; have HO_109001 := n1_; have HO_117000 := n2_; have HO_117001 := n3_; have HO_130000 := n4_; have HO_130001 := n5_; have BK108 := n6_; have BK116 := n7_; have BK129 := n8_; have HB := n9_; clear n0_ n1_ n2_ n3_ n4_ n5_ n6_ n7_ n8_ n9_; (try clear hb)))
           go_ret
           exact ⟨by first | rfl | (simp [*, errW_none, errW_some] <;> rfl), by repeat (with_reducible first | exact HB.out | apply below_alloc | apply pw_below_drewN | apply below_drew1 | refine below_set ?_ GE108.out | refine below_set ?_ GE116.out | refine below_set ?_ GE129.out)⟩
          ·rw [if_neg c68] at H
           have c68b0 : decide (t131 < 0) = false := decide_eq_false c68
           clear c68
           by_cases c73 : t131 = t118
           ·rw [if_pos c73] at H
            have c73b0 : (t131 == t118) = true := beq_iff_eq.mpr c73
            have c73b1 : (t131 != t118) = false := bne_eq_false_iff_eq.mpr c73
            clear c73
            obtain rfl := Option.some.inj H
            have hnb74 := NB116_108.out
            have hnc74 := NB108_116.out
            have hnb75 := NB116_129.out
            have hnc75 := NB129_116.out
            have hcz76_0 : wc.cell? ⟨gb116, 0, none⟩ = some (.slice Ao14 t119.length co14) := (blk_cell BK116.out 0).trans rfl
            have hcz76_1 : wc.cell? ⟨gb116, 1, none⟩ = some (.slice Ao17 t120.length co17) := (blk_cell BK116.out 1).trans rfl
            have hfz76_0 := blk_frozen BK116.out 0
            have hfz76_1 := blk_frozen BK116.out 1
            go_wp2_with (first | ((with_reducible refine gate_callee (f := 10) rfl ?_); refine goesL_ (some 65) rfl rfl Try.func10 (by kernel_rfl) rfl #[.agg #[.slice Ao14 t119.length co14, .slice Ao17 t120.length co17], .int .i64 1] rfl (by (try simp only [List.map_toArray, List.map_cons, List.map_nil]); first | done | rfl) ?_; (with_reducible refine (laws_heldShelf.calls kj38 _ _ t119 _ _ t120 1 t131 _ ?side1 ?side2 ?side3 ?side4 A67.out).mono ?_); (case side1 => repeat (first | exact (Kd.R_reads' HO_117000.out).2.2 | (with_reducible refine Kd.C_alloc ?_ _) | (with_reducible refine Kd.C_drewN ?_ _) | (with_reducible refine Kd.C_drew ?_))); (case side2 => exact (Kd.R_reads' HO_117000.out).2.1); (case side3 => repeat (first | exact (Kd.R_reads' HO_117001.out).2.2 | (with_reducible refine Kd.C_alloc ?_ _) | (with_reducible refine Kd.C_drewN ?_ _) | (with_reducible refine Kd.C_drew ?_))); (case side4 => exact (Kd.R_reads' HO_117001.out).2.1); rintro e w77 ⟨rfl, hb⟩; refine ⟨_, rfl, ?_⟩; have n0_ := Aside0.mk (Kd.R_below (by (with_reducible repeat (first | apply Kd.R_alloc | apply Kd.R_drewN | apply Kd.R_drew)); exact HO_109000.out) hb); have n1_ := Aside0.mk (Kd.R_below (by (with_reducible repeat (first | apply Kd.R_alloc | apply Kd.R_drewN | apply Kd.R_drew)); exact HO_109001.out) hb); have n2_ := Aside0.mk (Kd.R_below (by (with_reducible repeat (first | apply Kd.R_alloc | apply Kd.R_drewN | apply Kd.R_drew)); exact HO_117000.out) hb); have n3_ := Aside0.mk (Kd.R_below (by (with_reducible repeat (first | apply Kd.R_alloc | apply Kd.R_drewN | apply Kd.R_drew)); exact HO_117001.out) hb); have n4_ := Aside0.mk (Kd.R_below (by (with_reducible repeat (first | apply Kd.R_alloc | apply Kd.R_drewN | apply Kd.R_drew)); exact HO_130000.out) hb); have n5_ := Aside0.mk (Kd.R_below (by (with_reducible repeat (first | apply Kd.R_alloc | apply Kd.R_drewN | apply Kd.R_drew)); exact HO_130001.out) hb); have n6_ := Aside0.mk (blk_below (g := gb108) (o := .cells #[.slice Ao9 t101.length co9, .slice Ao11 t104.length co11] 25 (0, 0)) (by (with_reducible repeat (first | refine blk_drewN ?_ _ | refine blk_drew ?_ | refine blk_alloc ?_ _)); exact BK108.out) hb); have n7_ := Aside0.mk (blk_below (g := gb116) (o := .cells #[.slice Ao14 t119.length co14, .slice Ao17 t120.length co17] 25 (0, 0)) (by (with_reducible repeat (first | refine blk_drewN ?_ _ | refine blk_drew ?_ | refine blk_alloc ?_ _)); exact BK116.out) hb); have n8_ := Aside0.mk (blk_below (g := gb129) (o := .cells #[.slice Ao47 t122.length co47, .slice Ao51 t125.length co51] 25 (0, 0)) (by (with_reducible repeat (first | refine blk_drewN ?_ _ | refine blk_drew ?_ | refine blk_alloc ?_ _)); exact BK129.out) hb); have n9_ := Aside0.mk (below_step (by repeat (with_reducible first | exact HB.out | apply below_alloc | apply pw_below_drewN | apply below_drew1 | refine below_set ?_ GE108.out | refine below_set ?_ GE116.out | refine below_set ?_ GE129.out)) hb); clear HO_109000; clear HO_109001; clear HO_117000; clear HO_117001; clear HO_130000; clear HO_130001; clear BK108; clear BK116; clear BK129; clear HB; have HO_109000 := n0_; have HO_109001 := n1_; have HO_117000 := n2_; have HO_117001 := n3_; have HO_130000 := n4_; have HO_130001 := n5_; have BK108 := n6_; have BK116 := n7_; have BK129 := n8_; have HB := n9_; clear n0_ n1_ n2_ n3_ n4_ n5_ n6_ n7_ n8_ n9_; (try clear hb)))
            go_ret
            exact ⟨by first | rfl | (simp [*, errW_none, errW_some] <;> rfl), by repeat (with_reducible first | exact HB.out | apply below_alloc | apply pw_below_drewN | apply below_drew1 | refine below_set ?_ GE108.out | refine below_set ?_ GE116.out | refine below_set ?_ GE129.out)⟩
           ·rw [if_neg c73] at H
            have c73b0 : (t131 == t118) = false := beq_eq_false_iff_ne.mpr c73
            have c73b1 : (t131 != t118) = true := bne_iff_ne.mpr c73
            obtain rfl := Option.some.inj H
            have hnb78 := NB116_108.out
            have hnc78 := NB108_116.out
            have hnb79 := NB116_129.out
            have hnc79 := NB129_116.out
            have hcz80_0 : wc.cell? ⟨gb116, 0, none⟩ = some (.slice Ao14 t119.length co14) := (blk_cell BK116.out 0).trans rfl
            have hcz80_1 : wc.cell? ⟨gb116, 1, none⟩ = some (.slice Ao17 t120.length co17) := (blk_cell BK116.out 1).trans rfl
            have hfz80_0 := blk_frozen BK116.out 0
            have hfz80_1 := blk_frozen BK116.out 1
            go_wp2_with (first | ((with_reducible refine gate_callee (f := 10) rfl ?_); refine goesL_ (some 65) rfl rfl Try.func10 (by kernel_rfl) rfl #[.agg #[.slice Ao14 t119.length co14, .slice Ao17 t120.length co17], .int .i64 1] rfl (by (try simp only [List.map_toArray, List.map_cons, List.map_nil]); first | done | rfl) ?_; (with_reducible refine (laws_heldShelf.calls kj38 _ _ t119 _ _ t120 1 t131 _ ?side1 ?side2 ?side3 ?side4 A67.out).mono ?_); (case side1 => repeat (first | exact (Kd.R_reads' HO_117000.out).2.2 | (with_reducible refine Kd.C_alloc ?_ _) | (with_reducible refine Kd.C_drewN ?_ _) | (with_reducible refine Kd.C_drew ?_))); (case side2 => exact (Kd.R_reads' HO_117000.out).2.1); (case side3 => repeat (first | exact (Kd.R_reads' HO_117001.out).2.2 | (with_reducible refine Kd.C_alloc ?_ _) | (with_reducible refine Kd.C_drewN ?_ _) | (with_reducible refine Kd.C_drew ?_))); (case side4 => exact (Kd.R_reads' HO_117001.out).2.1); rintro e w81 ⟨rfl, hb⟩; refine ⟨_, rfl, ?_⟩; have n0_ := Aside0.mk (Kd.R_below (by (with_reducible repeat (first | apply Kd.R_alloc | apply Kd.R_drewN | apply Kd.R_drew)); exact HO_109000.out) hb); have n1_ := Aside0.mk (Kd.R_below (by (with_reducible repeat (first | apply Kd.R_alloc | apply Kd.R_drewN | apply Kd.R_drew)); exact HO_109001.out) hb); have n2_ := Aside0.mk (Kd.R_below (by (with_reducible repeat (first | apply Kd.R_alloc | apply Kd.R_drewN | apply Kd.R_drew)); exact HO_117000.out) hb); have n3_ := Aside0.mk (Kd.R_below (by (with_reducible repeat (first | apply Kd.R_alloc | apply Kd.R_drewN | apply Kd.R_drew)); exact HO_117001.out) hb); have n4_ := Aside0.mk (Kd.R_below (by (with_reducible repeat (first | apply Kd.R_alloc | apply Kd.R_drewN | apply Kd.R_drew)); exact HO_130000.out) hb); have n5_ := Aside0.mk (Kd.R_below (by (with_reducible repeat (first | apply Kd.R_alloc | apply Kd.R_drewN | apply Kd.R_drew)); exact HO_130001.out) hb); have n6_ := Aside0.mk (blk_below (g := gb108) (o := .cells #[.slice Ao9 t101.length co9, .slice Ao11 t104.length co11] 25 (0, 0)) (by (with_reducible repeat (first | refine blk_drewN ?_ _ | refine blk_drew ?_ | refine blk_alloc ?_ _)); exact BK108.out) hb); have n7_ := Aside0.mk (blk_below (g := gb116) (o := .cells #[.slice Ao14 t119.length co14, .slice Ao17 t120.length co17] 25 (0, 0)) (by (with_reducible repeat (first | refine blk_drewN ?_ _ | refine blk_drew ?_ | refine blk_alloc ?_ _)); exact BK116.out) hb); have n8_ := Aside0.mk (blk_below (g := gb129) (o := .cells #[.slice Ao47 t122.length co47, .slice Ao51 t125.length co51] 25 (0, 0)) (by (with_reducible repeat (first | refine blk_drewN ?_ _ | refine blk_drew ?_ | refine blk_alloc ?_ _)); exact BK129.out) hb); have n9_ := Aside0.mk (below_step (by repeat (with_reducible first | exact HB.out | apply below_alloc | apply pw_below_drewN | apply below_drew1 | refine below_set ?_ GE108.out | refine below_set ?_ GE116.out | refine below_set ?_ GE129.out)) hb); clear HO_109000; clear HO_109001; clear HO_117000; clear HO_117001; clear HO_130000; clear HO_130001; clear BK108; clear BK116; clear BK129; clear HB; have HO_109000 := n0_; have HO_109001 := n1_; have HO_117000 := n2_; have HO_117001 := n3_; have HO_130000 := n4_; have HO_130001 := n5_; have BK108 := n6_; have BK116 := n7_; have BK129 := n8_; have HB := n9_; clear n0_ n1_ n2_ n3_ n4_ n5_ n6_ n7_ n8_ n9_; (try clear hb)))
            go_ret
            exact ⟨by first | rfl | (simp [*, errW_none, errW_some] <;> rfl), by repeat (with_reducible first | exact HB.out | apply below_alloc | apply pw_below_drewN | apply below_drew1 | refine below_set ?_ GE108.out | refine below_set ?_ GE116.out | refine below_set ?_ GE129.out)⟩
      ·rw [if_neg c37] at H
       have c37b0 : (t121 == t118) = false := beq_eq_false_iff_ne.mpr c37
       have c37b1 : (t121 != t118) = true := bne_iff_ne.mpr c37
       obtain rfl := Option.some.inj H
       have hnb82 := NB116_108.out
       have hnc82 := NB108_116.out
       have hcz83_0 : wc.cell? ⟨gb116, 0, none⟩ = some (.slice Ao14 t109.length co14) := (blk_cell BK116.out 0).trans rfl
       have hcz83_1 : wc.cell? ⟨gb116, 1, none⟩ = some (.slice Ao17 t112.length co17) := (blk_cell BK116.out 1).trans rfl
       have hfz83_0 := blk_frozen BK116.out 0
       have hfz83_1 := blk_frozen BK116.out 1
       go_wp2_with (first | ((with_reducible refine gate_callee (f := 9) rfl ?_); refine goesL_ (some 39) rfl rfl Try.func9 (by kernel_rfl) rfl #[.agg #[.slice Ao14 t109.length co14, .slice Ao17 t112.length co17], .int .i64 1] rfl (by (try simp only [List.map_toArray, List.map_cons, List.map_nil]); first | done | rfl) ?_; (with_reducible refine (laws_markShelf.calls kj5 (fun k_ => some k_ = (.slice Ao14 t109.length co14 : Value).ownBlock) (.slice Ao14 t109.length co14) t109 (fun k_ => some k_ = (.slice Ao17 t112.length co17 : Value).ownBlock) (.slice Ao17 t112.length co17) t112 1 t118 t119 t120 w _ ?side1 ?side2 ?side3 A29.out).mono ?_); (case side1 => repeat (with_reducible first | exact HB.out | apply below_alloc | apply pw_below_drewN | apply below_drew1 | refine below_set ?_ GE108.out | refine below_set ?_ GE116.out)); (case side2 => exact Kd.R_tight rfl HO_117000.out); (case side3 => exact Kd.R_tight rfl HO_117001.out); rintro e w84 ⟨rfl, hy0, hy1, hb, hkp⟩; refine ⟨_, rfl, ?_⟩; have n0_ := Aside0.mk (Kd.R_mono (ok' := fun k_ => some k_ ≠ (.slice Ao14 t109.length co14 : Value).ownBlock) (Kd.R_keptB ((Kd.R_apart' HO_109000.out (Kd.R_typed HO_117001.out) (by decide))) hkp (fun k_ hk_ hs_ => Or.elim hs_ (fun e_ => (hk_.1) e_) (fun e_ => (hk_.2) e_))) (fun k_ hk_ => hk_.1.1)); have n1_ := Aside0.mk (Kd.R_mono (ok' := fun k_ => some k_ ≠ (.slice Ao17 t112.length co17 : Value).ownBlock) (Kd.R_keptB ((Kd.R_apart' HO_109001.out (Kd.R_typed HO_117000.out) (by decide))) hkp (fun k_ hk_ hs_ => Or.elim hs_ (fun e_ => (hk_.2) e_) (fun e_ => (hk_.1) e_))) (fun k_ hk_ => hk_.1.1)); have n2_ := Aside0.mk (Kd.R_reok rfl hy0 (fun k_ e_ => HO_117000.out.1 k_ e_)); have n3_ := Aside0.mk (Kd.R_reok rfl hy1 (fun k_ e_ => HO_117001.out.1 k_ e_)); have n4_ := Aside0.mk (blk_kept (by (with_reducible repeat (first | refine blk_drewN ?_ _ | refine blk_drew ?_ | refine blk_alloc ?_ _)); exact BK108.out) hkp (fun hs_ => Or.elim hs_ (fun e_ => (fun e_ => (Kd.R_ne HO_117000.out BK108.out (by decide)) e_) e_) (fun e_ => (fun e_ => (Kd.R_ne HO_117001.out BK108.out (by decide)) e_) e_))); have n5_ := Aside0.mk (blk_kept (by (with_reducible repeat (first | refine blk_drewN ?_ _ | refine blk_drew ?_ | refine blk_alloc ?_ _)); exact BK116.out) hkp (fun hs_ => Or.elim hs_ (fun e_ => (fun e_ => (Kd.R_ne HO_117000.out BK116.out (by decide)) e_) e_) (fun e_ => (fun e_ => (Kd.R_ne HO_117001.out BK116.out (by decide)) e_) e_))); have n6_ := Aside0.mk (hb); clear HO_109000; clear HO_109001; clear HO_117000; clear HO_117001; clear BK108; clear BK116; clear HB; have HO_109000 := n0_; have HO_109001 := n1_; have HO_117000 := n2_; have HO_117001 := n3_; have BK108 := n4_; have BK116 := n5_; have HB := n6_; clear n0_ n1_ n2_ n3_ n4_ n5_ n6_; (try clear hb); (try clear hkp); (try clear hy0); (try clear hy1); have hcz85_0 : w84.cell? ⟨gb116, 0, none⟩ = some (.slice Ao14 t109.length co14) := (blk_cell BK116.out 0).trans rfl; have hcz85_1 : w84.cell? ⟨gb116, 1, none⟩ = some (.slice Ao17 t112.length co17) := (blk_cell BK116.out 1).trans rfl; have hfz85_0 := blk_frozen BK116.out 0; have hfz85_1 := blk_frozen BK116.out 1) | ((with_reducible refine gate_callee (f := 10) rfl ?_); refine goesL_ (some 42) rfl rfl Try.func10 (by kernel_rfl) rfl #[.agg #[.slice Ao14 t119.length co14, .slice Ao17 t120.length co17], .int .i64 1] rfl (by (try simp only [List.map_toArray, List.map_cons, List.map_nil]); first | done | (rw [show t119.length = t109.length from (Kd.R_reads' HO_117000.out).1.symm, show t120.length = t112.length from (Kd.R_reads' HO_117001.out).1.symm] <;> rfl) | rfl | (simp only [List.length_drop, List.length_take]; rfl)) ?_; (with_reducible refine (laws_heldShelf.calls kj5 _ _ t119 _ _ t120 1 t121 _ ?side1 ?side2 ?side3 ?side4 A30.out).mono ?_); (case side1 => repeat (first | exact (Kd.R_reads' HO_117000.out).2.2 | (with_reducible refine Kd.C_alloc ?_ _) | (with_reducible refine Kd.C_drewN ?_ _) | (with_reducible refine Kd.C_drew ?_))); (case side2 => rw [show t119.length = t109.length from (Kd.R_reads' HO_117000.out).1.symm]; exact (Kd.R_reads' HO_117000.out).2.1); (case side3 => repeat (first | exact (Kd.R_reads' HO_117001.out).2.2 | (with_reducible refine Kd.C_alloc ?_ _) | (with_reducible refine Kd.C_drewN ?_ _) | (with_reducible refine Kd.C_drew ?_))); (case side4 => rw [show t120.length = t112.length from (Kd.R_reads' HO_117001.out).1.symm]; exact (Kd.R_reads' HO_117001.out).2.1); rintro e w86 ⟨rfl, hb⟩; refine ⟨_, rfl, ?_⟩; have n0_ := Aside0.mk (Kd.R_below (by (with_reducible repeat (first | apply Kd.R_alloc | apply Kd.R_drewN | apply Kd.R_drew)); exact HO_109000.out) hb); have n1_ := Aside0.mk (Kd.R_below (by (with_reducible repeat (first | apply Kd.R_alloc | apply Kd.R_drewN | apply Kd.R_drew)); exact HO_109001.out) hb); have n2_ := Aside0.mk (Kd.R_below (by (with_reducible repeat (first | apply Kd.R_alloc | apply Kd.R_drewN | apply Kd.R_drew)); exact HO_117000.out) hb); have n3_ := Aside0.mk (Kd.R_below (by (with_reducible repeat (first | apply Kd.R_alloc | apply Kd.R_drewN | apply Kd.R_drew)); exact HO_117001.out) hb); have n4_ := Aside0.mk (blk_below (g := gb108) (o := .cells #[.slice Ao9 t101.length co9, .slice Ao11 t104.length co11] 25 (0, 0)) (by (with_reducible repeat (first | refine blk_drewN ?_ _ | refine blk_drew ?_ | refine blk_alloc ?_ _)); exact BK108.out) hb); have n5_ := Aside0.mk (blk_below (g := gb116) (o := .cells #[.slice Ao14 t109.length co14, .slice Ao17 t112.length co17] 25 (0, 0)) (by (with_reducible repeat (first | refine blk_drewN ?_ _ | refine blk_drew ?_ | refine blk_alloc ?_ _)); exact BK116.out) hb); have n6_ := Aside0.mk (below_step (by repeat (with_reducible first | exact HB.out | apply below_alloc | apply pw_below_drewN | apply below_drew1 | refine below_set ?_ GE108.out | refine below_set ?_ GE116.out)) hb); clear HO_109000; clear HO_109001; clear HO_117000; clear HO_117001; clear BK108; clear BK116; clear HB; have HO_109000 := n0_; have HO_109001 := n1_; have HO_117000 := n2_; have HO_117001 := n3_; have BK108 := n4_; have BK116 := n5_; have HB := n6_; clear n0_ n1_ n2_ n3_ n4_ n5_ n6_; (try clear hb)))
       go_ret
       exact ⟨by first | rfl | (simp [*, errW_none, errW_some] <;> rfl), by repeat (with_reducible first | exact HB.out | apply below_alloc | apply pw_below_drewN | apply below_drew1 | refine below_set ?_ GE108.out | refine below_set ?_ GE116.out)⟩
def laws_FnExactNewShelf.Pure : Prop := ∀ (a0 : ByteArray) (a1 : Int), a0.size ≤ 140737488351232 → (Lit.int .i64 a1).wf = true → ∃ k, laws_FnExactNewShelf.f k a0 a1 = some true
theorem laws_FnExactNewShelf.walk (P : laws_FnExactNewShelf.Pure) (a0 : ByteArray) (a1 : Int) (w : World) (w0 : a0.size ≤ 140737488351232) (w1 : (Lit.int .i64 a1).wf = true) :
  Calls Try.prog 3 #[.string a0, .int .i64 a1] w fun e w' => e = .returned (.bool true) ∧ Below w.heap.size w w' := by
 obtain ⟨k, h⟩ := P a0 a1 w0 w1
 refine (laws_FnExactNewShelf.calls k a0 a1 true w h).mono ?_
 rintro e w' ⟨rfl, hd⟩
 exact ⟨rfl, hd⟩
end Go.Proofs.Ytoojllfbipfdkaa.L
namespace Go.Proofs.Ytoojllfbipfdkaa.Ev
open Go.RowKit Go.Proofs.Ytoojllfbipfdkaa.L Go.Proofs.YtoojllfbipfdkaaW.PrintWords Go.Proofs.YtoojllfbipfdkaaW.PrintLast Gf
set_option linter.unusedVariables false
def Ev {α : Type} (f : Nat → Option α) (v : α) : Prop := ∃ K, ∀ k, K ≤ k → f k = some v
theorem Ev.const {α : Type} (v : α) : Ev (fun _ => some v) v := ⟨0, fun _ _ => rfl⟩
theorem Ev.from {α : Type} {f : Nat → Option α} {v : α} (K : Nat) (h : ∀ k, K ≤ k → f k = some v) : Ev f v := ⟨K, h⟩
theorem Ev.mono {α : Type} {f : Nat → Option α} {v : α} (hm : ∀ k, LeO (f k) (f (k + 1))) {K : Nat} (h : f K = some v) : Ev f v :=
  ⟨K, fun k hk => by
    induction k with
    | zero =>
      obtain rfl : K = 0 := by omega
      exact h
    | succ k ih =>
      by_cases he : K = k + 1
      · subst he; exact h
      · exact hm k v (ih (by omega))⟩
theorem Ev.succ {α : Type} {f g : Nat → Option α} {v : α} (h : ∀ k, f (k + 1) = g k) (hg : Ev g v) : Ev f v := by
  obtain ⟨K, hK⟩ := hg
  refine ⟨K + 1, fun k hk => ?_⟩
  cases k with
  | zero => omega
  | succ k => rw [h, hK k (by omega)]
theorem Ev.congr {α : Type} {f g : Nat → Option α} {v : α} (h : ∀ k, f k = g k) (hg : Ev g v) : Ev f v := by
  obtain ⟨K, hK⟩ := hg
  exact ⟨K, fun k hk => by rw [h, hK k hk]⟩
theorem Ev.bind {α β : Type} {f : Nat → Option α} {g : Nat → α → Option β} {a : α} {b : β} (hf : Ev f a) (hg : Ev (fun k => g k a) b) : Ev (fun k => (f k).bind (g k)) b := by
  obtain ⟨K, hK⟩ := hf
  obtain ⟨M, hM⟩ := hg
  exact ⟨K + M, fun k hk => by show (f k).bind (g k) = _; rw [hK k (by omega)]; exact hM k (by omega)⟩
theorem Ev.ite {α : Type} {c : Prop} [Decidable c] {f g : Nat → Option α} {v : α} (hc : c) (hf : Ev f v) : Ev (fun k => if c then f k else g k) v :=
  Ev.congr (fun _ => if_pos hc) hf
theorem Ev.ite_not {α : Type} {c : Prop} [Decidable c] {f g : Nat → Option α} {v : α} (hc : ¬ c) (hg : Ev g v) : Ev (fun k => if c then f k else g k) v :=
  Ev.congr (fun _ => if_neg hc) hg
theorem Ev.at {α : Type} {f : Nat → Option α} {v : α} (h : Ev f v) : ∃ k, f k = some v := by
  obtain ⟨K, hK⟩ := h
  exact ⟨K, hK K (Nat.le_refl _)⟩
def tab {α : Type} (n : Nat) (h : Nat → α) : List α := (List.range n).map h
theorem tab_length {α : Type} (n : Nat) (h : Nat → α) : (tab n h).length = n := by simp [tab]
theorem tab_succ {α : Type} (n : Nat) (h : Nat → α) : tab (n + 1) h = tab n h ++ [h n] := by simp [tab, List.range_succ]
theorem tab_get {α : Type} {n : Nat} {h : Nat → α} {i : Nat} (hi : i < n) (d : α) : (tab n h).getD i d = h i := by
  simp [tab, List.getD_eq_getElem?_getD, hi]
theorem tab_congr {α : Type} {n : Nat} {h h' : Nat → α} (e : ∀ i, i < n → h i = h' i) : tab n h = tab n h' := by
  unfold tab
  exact List.map_congr_left (fun i hi => e i (by simpa using hi))
theorem tab_set {α : Type} {n : Nat} {h : Nat → α} {i : Nat} (hi : i < n) (v : α) : (tab n h).set i v = tab n (fun j => if j = i then v else h j) := by
  apply List.ext_getElem
  · simp [tab]
  · intro j h1 h2
    simp only [tab, List.getElem_set, List.getElem_map, List.getElem_range]
    by_cases e : i = j
    · simp [e]
    · rw [if_neg e, if_neg (fun e' => e e'.symm)]
theorem tab_rep {α : Type} (n : Nat) (a : α) : List.replicate n a = tab n (fun _ => a) := by
  apply List.ext_getElem
  · simp [tab]
  · intro j h1 h2; simp [tab]
theorem rd_tab {n : Nat} {h : Nat → Int} {i : Nat} (hi : i < n) : rd (tab n h) (i : Int) = h i := by
  unfold rd; rw [Int.toNat_natCast]; exact tab_get hi 0
theorem bytes_tab (s : ByteArray) : bytesOf s = tab s.size (fun i => bt s (i : Int)) := by
  apply List.ext_getElem
  · rw [tab_length, bytesOf_length]
  · intro i h1 h2
    have hi : i < s.size := by rwa [bytesOf_length] at h1
    have := rd_bytesOf s (i : Int)
    unfold rd at this
    rw [Int.toNat_natCast, List.getD_eq_getElem?_getD, List.getElem?_eq_getElem h1] at this
    simp only [Option.getD_some] at this
    rw [this]
    simp [tab]
theorem strOf_append (xs ys : List Int) : strOfNums (xs ++ ys) = strOfNums xs ++ strOfNums ys := by
  apply ByteArray.ext
  simp [strOfNums]
theorem bytes_strOf {xs : List Int} (h : ∀ x ∈ xs, isB x) : bytesOf (strOfNums xs) = xs := by
  unfold bytesOf strOfNums
  simp only [List.map_map]
  conv => rhs; rw [← List.map_id xs]
  apply List.map_congr_left
  intro x hx
  have hb := h x hx
  unfold isB at hb
  simp only [Function.comp, id]
  rw [UInt8.toNat_ofNat', Nat.mod_eq_of_lt (by omega)]
  omega
theorem bytes_strTab {n : Nat} {h : Nat → Int} (hb : ∀ i, i < n → isB (h i)) : bytesOf (strOfNums (tab n h)) = tab n h := by
  apply bytes_strOf
  intro x hx
  simp only [tab, List.mem_map, List.mem_range] at hx
  obtain ⟨i, hi, rfl⟩ := hx
  exact hb i hi
theorem bt_B (s : ByteArray) (i : Int) : isB (bt s i) := by
  have := bt_range s i
  exact ⟨this.1, by omega⟩
theorem w64s {n : Nat} (h : n < 4611686018427387904) : wrap64 ((n : Int) + 1) = ((n + 1 : Nat) : Int) := by rw [w64 (by omega) (by omega)]; omega
theorem scaled_l0 (a : Int) (ha : isB a) (n : Nat) (h : Nat → Int) (hb : ∀ i, i < n → isB (h i)) (hn : n < 140737488355328) : ∀ d t k, d = n - t → t ≤ n → d + 10 ≤ k →
    impl_scaled.l0 k a (tab t fun i => tm a (h i)) (tab n h) (n : Int) (t : Int) = some (tab n fun i => tm a (h i))
  | 0, t, k + 1, hd, ht, hk => by
    obtain rfl : t = n := by omega
    rw [impl_scaled.l0, if_neg (by omega)]
  | d + 1, t, k + 1, hd, ht, hk => by
    rw [impl_scaled.l0, if_pos (by omega), if_pos (by omega), if_pos (by rw [tab_length]; omega), rd_tab (by omega), times_eval ha (hb t (by omega)) k (by omega), Option.bind_some, if_pos (by rw [tab_length]; omega), w64s (by omega), ← tab_succ t (fun i => tm a (h i))]
    exact scaled_l0 a ha n h hb hn d (t + 1) k (by omega) (by omega) (by omega)
theorem scaled_eval (a : Int) (ha : isB a) (n : Nat) (h : Nat → Int) (hb : ∀ i, i < n → isB (h i)) (hn : n < 140737488355328) (k : Nat) (hk : n + 10 ≤ k) :
    impl_scaled.f k a (tab n h) = some (tab n fun i => tm a (h i)) := by
  unfold impl_scaled.f
  rw [tab_length]
  exact scaled_l0 a ha n h hb hn n 0 k (by omega) (by omega) (by omega)
theorem added_l0 (n : Nat) (h g : Nat → Int) (hb : ∀ i, i < n → isB (h i)) (gb : ∀ i, i < n → isB (g i)) (hn : n < 140737488355328) : ∀ d t k, d = n - t → t ≤ n → d + 1 ≤ k →
    impl_added.l0 k (tab n g) (tab t fun i => bx (h i) (g i)) (tab n h) (n : Int) (t : Int) = some (tab n fun i => bx (h i) (g i))
  | 0, t, k + 1, hd, ht, hk => by
    obtain rfl : t = n := by omega
    rw [impl_added.l0, if_neg (by omega)]
  | d + 1, t, k + 1, hd, ht, hk => by
    rw [impl_added.l0, if_pos (by omega), if_pos (by omega), if_pos (by rw [tab_length]; omega), if_pos (by rw [tab_length]; omega), if_pos (by rw [tab_length]; omega), rd_tab (by omega), rd_tab (by omega), xor_u8_bx (hb t (by omega)) (gb t (by omega)), w64s (by omega), ← tab_succ t (fun i => bx (h i) (g i))]
    exact added_l0 n h g hb gb hn d (t + 1) k (by omega) (by omega) (by omega)
theorem added_eval (n : Nat) (h g : Nat → Int) (hb : ∀ i, i < n → isB (h i)) (gb : ∀ i, i < n → isB (g i)) (hn : n < 140737488355328) (k : Nat) (hk : n + 1 ≤ k) :
    impl_added.f k (tab n h) (tab n g) = some (tab n fun i => bx (h i) (g i)) := by
  unfold impl_added.f
  rw [tab_length]
  exact added_l0 n h g hb gb hn n 0 k (by omega) (by omega) (by omega)
theorem timesOf_eval (a : Int) (ha : isB a) (s : ByteArray) (hn : s.size < 140737488355328) (k : Nat) (hk : s.size + 10 ≤ k) :
    impl_timesOf.f k a s = some (strOfNums (tab s.size fun i => tm a (bt s (i : Int)))) := by
  unfold impl_timesOf.f
  rw [if_pos (by omega), bytes_tab, scaled_eval a ha s.size _ (fun i _ => bt_B s i) hn k hk, Option.bind_some]
theorem sumOf_eval (n : Nat) (h g : Nat → Int) (hb : ∀ i, i < n → isB (h i)) (gb : ∀ i, i < n → isB (g i)) (hn : n < 140737488355328) (k : Nat) (hk : n + 1 ≤ k) :
    impl_sumOf.f k (strOfNums (tab n h)) (strOfNums (tab n g)) = some (strOfNums (tab n fun i => bx (h i) (g i))) := by
  unfold impl_sumOf.f
  rw [if_pos (by rw [strOfNums_size, tab_length]; omega), if_pos (by rw [strOfNums_size, tab_length]; omega), bytes_strTab hb, bytes_strTab gb, added_eval n h g hb gb hn k hk, Option.bind_some]
def comb (row : List Int) (ps : List ByteArray) (p : Nat) : Nat → Int
  | 0 => 0
  | t + 1 => bx (comb row ps p t) (tm (rd row (t : Int)) (bt (rdOf ByteArray.empty ps (t : Int)) (p : Int)))
theorem comb_B (row : List Int) (ps : List ByteArray) (p : Nat) (hr : ∀ t : Nat, isB (rd row (t : Int))) : ∀ t, isB (comb row ps p t)
  | 0 => ⟨by simp [comb], by simp [comb]⟩
  | t + 1 => bx_B (comb_B row ps p hr t) (tm_B (hr t))
def rowOf (n : Nat) (row : List Int) (ps : List ByteArray) : ByteArray := strOfNums (tab n fun p => comb row ps p ps.length)
theorem combined_l1 (ps done : List ByteArray) (row : List Int) (rows : List (List Int)) (x13 x14 : Int) (n : Nat) (hn : n < 140737488355328) (hs : ∀ t : Nat, t < ps.length → (rdOf ByteArray.empty ps (t : Int)).size = n)
    (hr : ∀ t : Nat, isB (rd row (t : Int))) (hl : ps.length ≤ row.length) (hps : ps.length < 4294967296) (hdone : done.length < 8796093022208) : ∀ d t k, d = ps.length - t → t ≤ ps.length → d + n + 10 ≤ k →
    impl_combined.l1 k ps done row (strOfNums (tab n fun p => comb row ps p t)) rows x13 x14 ps (ps.length : Int) (t : Int) = impl_combined.l0 (k - d - 1) ps (done ++ [rowOf n row ps]) rows x13 (wrap64 (x14 + 1))
  | 0, t, k + 1, hd, ht, hk => by
    obtain rfl : t = ps.length := by omega
    rw [impl_combined.l1, if_neg (by omega), if_pos hdone]
    rfl
  | d + 1, t, k + 1, hd, ht, hk => by
    have hst := hs t (by omega)
    rw [impl_combined.l1, if_pos (by omega), if_pos (by omega), if_pos (by omega), if_pos (by omega), timesOf_eval _ (hr t) _ (by omega) k (by omega), Option.bind_some, hst,
      sumOf_eval n _ _ (fun i _ => comb_B row ps i hr t) (fun i _ => tm_B (hr t)) hn k (by omega), Option.bind_some, w64s (by omega)]
    have ih := combined_l1 ps done row rows x13 x14 n hn hs hr hl hps hdone d (t + 1) k (by omega) (by omega) (by omega)
    rw [show k + 1 - (d + 1) - 1 = k - d - 1 by omega]
    exact ih
theorem rep_bytes (n : Nat) (row : List Int) (ps : List ByteArray) : List.replicate n (0 : Int) = tab n fun p => comb row ps p 0 := by
  rw [tab_rep]; rfl
theorem combined_l0 (ps : List ByteArray) (rows : List (List Int)) (n : Nat) (hn : n < 140737488355328) (hs : ∀ t : Nat, t < ps.length → (rdOf ByteArray.empty ps (t : Int)).size = n) (h0 : 0 < ps.length) (hps : ps.length < 4294967296)
    (hr : ∀ j, j < rows.length → (∀ t : Nat, isB (rd (rd_L1 rows (j : Int)) (t : Int))) ∧ ps.length ≤ (rd_L1 rows (j : Int)).length) (hrows : rows.length < 4294967296) : ∀ d t k, d = rows.length - t → t ≤ rows.length → d * (ps.length + 3) + n + 20 ≤ k →
    impl_combined.l0 k ps (tab t fun j => rowOf n (rd_L1 rows (j : Int)) ps) rows (rows.length : Int) (t : Int) = some (tab rows.length fun j => rowOf n (rd_L1 rows (j : Int)) ps)
  | 0, t, k + 1, hd, ht, hk => by
    obtain rfl : t = rows.length := by omega
    rw [impl_combined.l0, if_neg (by omega)]
  | d + 1, t, k + 1, hd, ht, hk => by
    have hs0 := hs 0 h0
    rw [show ((0 : Nat) : Int) = 0 from rfl] at hs0
    have hrt := hr t (by omega)
    have hk2 : (d + 1) * (ps.length + 3) = d * (ps.length + 3) + ps.length + 3 := by rw [Nat.add_mul]; omega
    rw [impl_combined.l0, if_pos (by omega), if_pos (by omega), if_pos (by omega), if_pos (by omega), if_pos (by omega), if_pos (by omega), hs0, Int.toNat_natCast, rep_bytes n (rd_L1 rows (t : Int)) ps]
    have h1 := combined_l1 ps (tab t fun j => rowOf n (rd_L1 rows (j : Int)) ps) (rd_L1 rows (t : Int)) rows (rows.length : Int) (t : Int) n hn hs hrt.1 hrt.2 hps (by rw [tab_length]; omega) ps.length 0 k (by omega) (by omega) (by omega)
    rw [show ((0 : Nat) : Int) = 0 from rfl] at h1
    rw [h1, w64s (by omega), ← tab_succ t (fun j => rowOf n (rd_L1 rows (j : Int)) ps)]
    exact combined_l0 ps rows n hn hs h0 hps hr hrows d (t + 1) _ (by omega) (by omega) (by omega)
theorem combined_eval (ps : List ByteArray) (rows : List (List Int)) (n : Nat) (hn : n < 140737488355328) (hs : ∀ t : Nat, t < ps.length → (rdOf ByteArray.empty ps (t : Int)).size = n) (h0 : 0 < ps.length) (hps : ps.length < 4294967296)
    (hr : ∀ j, j < rows.length → (∀ t : Nat, isB (rd (rd_L1 rows (j : Int)) (t : Int))) ∧ ps.length ≤ (rd_L1 rows (j : Int)).length) (hrows : rows.length < 4294967296) (k : Nat) (hk : rows.length * (ps.length + 3) + n + 20 ≤ k) :
    impl_combined.f k rows ps = some (tab rows.length fun j => rowOf n (rd_L1 rows (j : Int)) ps) := by
  unfold impl_combined.f
  exact combined_l0 ps rows n hn hs h0 hps hr hrows rows.length 0 k (by omega) (by omega) hk
def upd (row : List Int) (ps : List ByteArray) (t s : Nat) (p : Nat) : Int := if p < s then comb row ps p (t + 1) else comb row ps p t
theorem rows_l2 (ps done : List ByteArray) (row : List Int) (rows : List (List Int)) (x14 x15 x25 : Int) (n t : Nat) (ht : t < ps.length) (hn : n < 140737488355328) (hs : ∀ t : Nat, t < ps.length → (rdOf ByteArray.empty ps (t : Int)).size = n)
    (hr : ∀ t : Nat, isB (rd row (t : Int))) : ∀ d s k, d = n - s → s ≤ n → d + 10 ≤ k →
    spec_l3Rows.l2 k ps done (tab n (upd row ps t s)) (t : Int) (rd row (t : Int)) rows x14 x15 row x25 (t : Int) (n : Int) (s : Int) = spec_l3Rows.l1 (k - d - 1) ps done (tab n fun p => comb row ps p (t + 1)) rows x14 x15 row x25 (wrap64 ((t : Int) + 1))
  | 0, s, k + 1, hd, hs', hk => by
    obtain rfl : s = n := by omega
    rw [spec_l3Rows.l2, if_neg (by omega), show tab s (upd row ps t s) = tab s fun p => comb row ps p (t + 1) from tab_congr fun i hi => by unfold upd; rw [if_pos hi]]
    rfl
  | d + 1, s, k + 1, hd, hs', hk => by
    have hst := hs t (by omega)
    have hu : upd row ps t s s = comb row ps s t := by unfold upd; rw [if_neg (by omega)]
    rw [spec_l3Rows.l2, if_pos (by omega), if_pos (by omega), if_pos (by rw [tab_length]; omega), if_pos (by omega), if_pos (by omega), if_pos (by omega), stimes_eval (hr t) (bt_B _ _) k (by omega), Option.bind_some, rd_tab (by omega), Int.toNat_natCast, tab_set (by omega), hu,
      xor_u8_bx (comb_B row ps s hr t) (tm_B (hr t)), w64s (by omega), show k + 1 - (d + 1) - 1 = k - d - 1 by omega]
    have ih := rows_l2 ps done row rows x14 x15 x25 n t ht hn hs hr d (s + 1) k (by omega) (by omega) (by omega)
    rw [← ih]
    congr 1
    refine tab_congr fun i hi => ?_
    unfold upd
    by_cases e : i = s
    · subst e; rw [if_pos rfl, if_pos (by omega)]; rfl
    · rw [if_neg e]
      by_cases e2 : i < s
      · rw [if_pos e2, if_pos (by omega)]
      · rw [if_neg e2, if_neg (by omega)]
theorem rows_l1 (ps done : List ByteArray) (row : List Int) (rows : List (List Int)) (x14 x15 : Int) (n : Nat) (hn : n < 140737488355328) (hs : ∀ t : Nat, t < ps.length → (rdOf ByteArray.empty ps (t : Int)).size = n)
    (hr : ∀ t : Nat, isB (rd row (t : Int))) (hl : row.length = ps.length) (hps : ps.length < 4294967296) (hdone : done.length < 8796093022208) : ∀ d t k, d = ps.length - t → t ≤ ps.length → d * (n + 2) + 12 ≤ k →
    spec_l3Rows.l1 k ps done (tab n fun p => comb row ps p t) rows x14 x15 row (row.length : Int) (t : Int) = spec_l3Rows.l0 (k - d * (n + 2) - 1) ps (done ++ [rowOf n row ps]) rows x14 (wrap64 (x15 + 1))
  | 0, t, k + 1, hd, ht, hk => by
    obtain rfl : t = ps.length := by omega
    rw [spec_l3Rows.l1, if_neg (by omega), if_pos hdone, Nat.zero_mul]
    rfl
  | d + 1, t, k + 1, hd, ht, hk => by
    have hk2 : (d + 1) * (n + 2) = d * (n + 2) + n + 2 := by rw [Nat.add_mul]; omega
    rw [spec_l3Rows.l1, if_pos (by omega), if_pos (by omega), if_pos (by omega), tab_length]
    have h2 := rows_l2 ps done row rows x14 x15 (row.length : Int) n t (by omega) hn hs hr n 0 k (by omega) (by omega) (by omega)
    rw [show tab n (upd row ps t 0) = tab n fun p => comb row ps p t from tab_congr fun i hi => by unfold upd; rw [if_neg (by omega)], show ((0 : Nat) : Int) = 0 from rfl] at h2
    rw [h2, w64s (by omega)]
    have ih := rows_l1 ps done row rows x14 x15 n hn hs hr hl hps hdone d (t + 1) (k - n - 1) (by omega) (by omega) (by omega)
    rw [ih]
    congr 1
    omega
theorem rows_l0 (ps : List ByteArray) (rows : List (List Int)) (n : Nat) (hn : n < 140737488355328) (hs : ∀ t : Nat, t < ps.length → (rdOf ByteArray.empty ps (t : Int)).size = n) (h0 : 0 < ps.length) (hps : ps.length < 4294967296)
    (hr : ∀ j, j < rows.length → (∀ t : Nat, isB (rd (rd_L1 rows (j : Int)) (t : Int))) ∧ (rd_L1 rows (j : Int)).length = ps.length) (hrows : rows.length < 4294967296) : ∀ d t k, d = rows.length - t → t ≤ rows.length → d * (ps.length * (n + 2) + 2) + 20 ≤ k →
    spec_l3Rows.l0 k ps (tab t fun j => rowOf n (rd_L1 rows (j : Int)) ps) rows (rows.length : Int) (t : Int) = some (tab rows.length fun j => rowOf n (rd_L1 rows (j : Int)) ps)
  | 0, t, k + 1, hd, ht, hk => by
    obtain rfl : t = rows.length := by omega
    rw [spec_l3Rows.l0, if_neg (by omega)]
  | d + 1, t, k + 1, hd, ht, hk => by
    have hs0 := hs 0 h0
    rw [show ((0 : Nat) : Int) = 0 from rfl] at hs0
    have hrt := hr t (by omega)
    have hk2 : (d + 1) * (ps.length * (n + 2) + 2) = d * (ps.length * (n + 2) + 2) + ps.length * (n + 2) + 2 := by rw [Nat.add_mul]; omega
    rw [spec_l3Rows.l0, if_pos (by omega), if_pos (by omega), if_pos (by omega), if_pos (by omega), if_pos (by omega), if_pos (by omega), hs0, Int.toNat_natCast, rep_bytes n (rd_L1 rows (t : Int)) ps]
    have h1 := rows_l1 ps (tab t fun j => rowOf n (rd_L1 rows (j : Int)) ps) (rd_L1 rows (t : Int)) rows (rows.length : Int) (t : Int) n hn hs hrt.1 hrt.2 hps (by rw [tab_length]; omega) ps.length 0 k (by omega) (by omega) (by omega)
    rw [show ((0 : Nat) : Int) = 0 from rfl] at h1
    rw [h1, w64s (by omega), ← tab_succ t (fun j => rowOf n (rd_L1 rows (j : Int)) ps)]
    exact rows_l0 ps rows n hn hs h0 hps hr hrows d (t + 1) _ (by omega) (by omega) (by omega)
theorem rows_eval (ps : List ByteArray) (rows : List (List Int)) (n : Nat) (hn : n < 140737488355328) (hs : ∀ t : Nat, t < ps.length → (rdOf ByteArray.empty ps (t : Int)).size = n) (h0 : 0 < ps.length) (hps : ps.length < 4294967296)
    (hr : ∀ j, j < rows.length → (∀ t : Nat, isB (rd (rd_L1 rows (j : Int)) (t : Int))) ∧ (rd_L1 rows (j : Int)).length = ps.length) (hrows : rows.length < 4294967296) (k : Nat) (hk : rows.length * (ps.length * (n + 2) + 2) + 20 ≤ k) :
    spec_l3Rows.f k rows ps = some (tab rows.length fun j => rowOf n (rd_L1 rows (j : Int)) ps) := by
  unfold spec_l3Rows.f
  exact rows_l0 ps rows n hn hs h0 hps hr hrows rows.length 0 k (by omega) (by omega) hk
end Go.Proofs.Ytoojllfbipfdkaa.Ev
namespace Go.Proofs.Ytoojllfbipfdkaa.Ev
open Go.RowKit Go.Proofs.Ytoojllfbipfdkaa.L Go.Proofs.YtoojllfbipfdkaaW.PrintWords Go.Proofs.YtoojllfbipfdkaaW.PrintLast Gf
set_option linter.unusedVariables false
set_option linter.unusedSimpArgs false
theorem wl (n : Int) (h0 : 0 ≤ n) (h1 : n ≤ 1000000) : wrap64 n = n := w64 (by omega) (by omega)
theorem repeat_zero : ∀ c, Lib.repeatL [0] c = List.replicate c (0 : UInt8)
  | 0 => rfl
  | c + 1 => by rw [Lib.repeatL, repeat_zero c]; rfl
theorem repeat_eval (c : Nat) (hc : c < 4294967296) : strings_Repeat.f (⟨#[0]⟩ : ByteArray) (c : Int) = some (strOfNums (List.replicate c 0)) := by
  unfold strings_Repeat.f
  rw [if_pos ⟨by omega, by omega, by rw [Int.toNat_natCast, show (⟨#[0]⟩ : ByteArray).size = 1 from rfl]; omega⟩, Int.toNat_natCast]
  congr 1
  apply ByteArray.ext
  simp [strOfNums, repeat_zero]
def each3 (n : Nat) : Nat := (n + 2) / 3
def padded (s : ByteArray) : ByteArray := s ++ strOfNums (List.replicate (each3 s.size * 3 - s.size) 0)
def parts3 (s : ByteArray) : List ByteArray := [(padded s).extract 0 (each3 s.size), (padded s).extract (each3 s.size) (2 * each3 s.size), (padded s).extract (2 * each3 s.size) (3 * each3 s.size)]
theorem padded_size (s : ByteArray) : (padded s).size = 3 * each3 s.size := by
  unfold padded each3
  rw [ByteArray.size_append, strOfNums_size, List.length_replicate]
  omega
theorem implSplit_eval (s : ByteArray) (hs : s.size ≤ 60) (k : Nat) (hk : 10 ≤ k) : impl_SplitText.f k s 3 = some (parts3 s, true) := by
  obtain ⟨k, rfl⟩ : ∃ j, k = j + 10 := ⟨k - 10, by omega⟩
  have hw : impl_within.f 3 1 8 = some true := rfl
  have he : wrap64 (Int.tdiv (wrap64 ((wrap64 ((s.size : Int) + 3)) - 1)) 3) = ((each3 s.size : Nat) : Int) := by
    rw [w64 (by omega) (by omega : (s.size : Int) + 3 ≤ _), w64 (by omega) (by omega : (s.size : Int) + 3 - 1 ≤ _), Int.tdiv_eq_ediv_of_nonneg (by omega), w64 (by omega) (by omega)]
    unfold each3; omega
  have hp := padded_size s
  have h3 : each3 s.size ≤ 20 := by unfold each3; omega
  have h4 : s.size ≤ each3 s.size * 3 := by unfold each3; omega
  unfold impl_SplitText.f
  rw [hw, Option.bind_some, if_pos rfl, show decide ((s.size : Int) > wrap64 (3 * 40)) = false from decide_eq_false (by rw [w64 (by omega) (by omega)]; omega), impl_SplitText.j0, if_neg (by decide), if_neg (by decide), he,
    show wrap64 (wrap64 (((each3 s.size : Nat) : Int) * 3) - (s.size : Int)) = ((each3 s.size * 3 - s.size : Nat) : Int) by rw [w64 (by omega) (by omega : ((each3 s.size : Nat) : Int) * 3 ≤ _), w64 (by omega) (by omega)]; omega,
    repeat_eval _ (by omega), Option.bind_some, if_pos (by rw [strOfNums_size, List.length_replicate]; omega)]
  change impl_SplitText.l0 (k + 9) (padded s) ((each3 s.size : Nat) : Int) [] 3 0 = _
  unfold parts3
  generalize each3 s.size = e at *
  rw [impl_SplitText.l0, if_pos (by decide), show wrap64 (0 * (e : Int)) = 0 by rw [Int.zero_mul]; exact wl 0 (by omega) (by omega), if_pos (by omega), show wrap64 (0 + 1) = 1 from wl _ (by omega) (by omega), show wrap64 (1 * (e : Int)) = (e : Int) by rw [w64 (by omega) (by omega)]; omega, if_pos (by omega), if_pos (by omega), if_pos (by simp),
    impl_SplitText.l0, if_pos (by decide), show wrap64 (1 * (e : Int)) = (e : Int) by rw [w64 (by omega) (by omega)]; omega, if_pos (by omega), show wrap64 (1 + 1) = 2 from wl _ (by omega) (by omega), show wrap64 (2 * (e : Int)) = ((2 * e : Nat) : Int) by rw [w64 (by omega) (by omega)]; omega, if_pos (by omega), if_pos (by omega), if_pos (by simp),
    impl_SplitText.l0, if_pos (by decide), show wrap64 (2 * (e : Int)) = ((2 * e : Nat) : Int) by rw [w64 (by omega) (by omega)]; omega, if_pos (by omega), show wrap64 (2 + 1) = 3 from wl _ (by omega) (by omega), show wrap64 (3 * (e : Int)) = ((3 * e : Nat) : Int) by rw [w64 (by omega) (by omega)]; omega, if_pos (by omega), if_pos (by omega), if_pos (by simp),
    impl_SplitText.l0, if_neg (by decide)]
  simp only [Int.toNat_natCast, List.nil_append, List.cons_append, show (0 : Int).toNat = 0 from rfl]
theorem specSplit_eval (s : ByteArray) (hs : s.size ≤ 60) (k : Nat) (hk : 10 ≤ k) : spec_l3Split.f k s 3 = some (parts3 s) := by
  obtain ⟨k, rfl⟩ : ∃ j, k = j + 9 := ⟨k - 9, by omega⟩
  have he : wrap64 (Int.tdiv (wrap64 ((wrap64 ((s.size : Int) + 3)) - 1)) 3) = ((each3 s.size : Nat) : Int) := by
    rw [w64 (by omega) (by omega : (s.size : Int) + 3 ≤ _), w64 (by omega) (by omega : (s.size : Int) + 3 - 1 ≤ _), Int.tdiv_eq_ediv_of_nonneg (by omega), w64 (by omega) (by omega)]
    unfold each3; omega
  have hp := padded_size s
  have h3 : each3 s.size ≤ 20 := by unfold each3; omega
  have h4 : s.size ≤ each3 s.size * 3 := by unfold each3; omega
  unfold spec_l3Split.f
  rw [if_neg (by decide), he,
    show wrap64 (wrap64 (3 * ((each3 s.size : Nat) : Int)) - (s.size : Int)) = ((each3 s.size * 3 - s.size : Nat) : Int) by rw [w64 (by omega) (by omega : 3 * ((each3 s.size : Nat) : Int) ≤ _), w64 (by omega) (by omega)]; omega,
    if_pos (by omega), if_pos (by omega), Option.bind_some, if_pos (by rw [strOfNums_size, List.length_replicate]; omega), Int.toNat_natCast]
  change spec_l3Split.l0 (k + 9) (padded s) 3 ((each3 s.size : Nat) : Int) [] 0 = _
  unfold parts3
  generalize each3 s.size = e at *
  rw [spec_l3Split.l0, if_pos (by decide), show wrap64 (0 * (e : Int)) = 0 by rw [Int.zero_mul]; exact wl 0 (by omega) (by omega), if_pos (by omega), show wrap64 (0 + 1) = 1 from wl _ (by omega) (by omega), show wrap64 (1 * (e : Int)) = (e : Int) by rw [w64 (by omega) (by omega)]; omega, if_pos (by omega), if_pos (by omega), if_pos (by simp),
    spec_l3Split.l0, if_pos (by decide), show wrap64 (1 * (e : Int)) = (e : Int) by rw [w64 (by omega) (by omega)]; omega, if_pos (by omega), show wrap64 (1 + 1) = 2 from wl _ (by omega) (by omega), show wrap64 (2 * (e : Int)) = ((2 * e : Nat) : Int) by rw [w64 (by omega) (by omega)]; omega, if_pos (by omega), if_pos (by omega), if_pos (by simp),
    spec_l3Split.l0, if_pos (by decide), show wrap64 (2 * (e : Int)) = ((2 * e : Nat) : Int) by rw [w64 (by omega) (by omega)]; omega, if_pos (by omega), show wrap64 (2 + 1) = 3 from wl _ (by omega) (by omega), show wrap64 (3 * (e : Int)) = ((3 * e : Nat) : Int) by rw [w64 (by omega) (by omega)]; omega, if_pos (by omega), if_pos (by omega), if_pos (by simp),
    spec_l3Split.l0, if_neg (by decide)]
  simp only [Int.toNat_natCast, List.nil_append, List.cons_append, show (0 : Int).toNat = 0 from rfl]
theorem parts3_size (s : ByteArray) : ∀ t : Nat, t < (parts3 s).length → (rdOf ByteArray.empty (parts3 s) (t : Int)).size = each3 s.size := by
  intro t ht
  have hp := padded_size s
  have h3 : (parts3 s).length = 3 := rfl
  rw [h3] at ht
  unfold rdOf
  rw [Int.toNat_natCast]
  unfold parts3
  match t, ht with
  | 0, _ => simp only [List.getD_cons_zero, ByteArray.size_extract]; omega
  | 1, _ => simp only [List.getD_cons_succ, List.getD_cons_zero, ByteArray.size_extract]; omega
  | 2, _ => simp only [List.getD_cons_succ, List.getD_cons_zero, ByteArray.size_extract]; omega
def mat5 : List (List Int) := [[1, 0, 0], [0, 1, 0], [0, 0, 1], [iv 3, iv 2, iv 1], [iv 4, iv 5, iv 6]]
theorem mat_ev : Ev (fun k => impl_codeRowsV.f k 3 2) mat5 := Ev.mono (f := fun k => impl_codeRowsV.f k 3 2) (fun k => impl_codeRowsV.mono 3 2 k) (K := 12) (by decide +kernel)
theorem smat_ev : Ev (fun k => spec_l3MatrixV.f k 3 2) mat5 := Ev.mono (f := fun k => spec_l3MatrixV.f k 3 2) (fun k => spec_l3MatrixV.mono 3 2 k) (K := 300) (by decide +kernel)
theorem mat_rows : ∀ j, j < mat5.length → (∀ t : Nat, isB (rd (rd_L1 mat5 (j : Int)) (t : Int))) ∧ (rd_L1 mat5 (j : Int)).length = 3 := by
  intro j hj
  have key : ∀ r ∈ mat5, r.length = 3 ∧ ∀ x ∈ r, isB x := by
    unfold isB mat5
    decide +kernel
  have hm : rd_L1 mat5 (j : Int) ∈ mat5 := by
    unfold rd_L1
    rw [Int.toNat_natCast, List.getD_eq_getElem?_getD, List.getElem?_eq_getElem hj]
    exact List.getElem_mem hj
  obtain ⟨h3, hB⟩ := key _ hm
  refine ⟨fun t => ?_, h3⟩
  unfold rd
  rw [Int.toNat_natCast, List.getD_eq_getElem?_getD]
  by_cases ht : t < (rd_L1 mat5 (j : Int)).length
  · rw [List.getElem?_eq_getElem ht]; exact hB _ (List.getElem_mem ht)
  · rw [List.getElem?_eq_none (by omega)]; exact ⟨by decide, by decide⟩
def coded5 (s : ByteArray) : List ByteArray := tab 5 fun j => rowOf (each3 s.size) (rd_L1 mat5 (j : Int)) (parts3 s)
def val (s c x : Int) : Int := bx (tm (bx (tm 0 x) c) x) s
def sh (s c : Int) : List S84 := [⟨1, val s c 1⟩, ⟨2, val s c 2⟩, ⟨3, val s c 3⟩, ⟨4, val s c 4⟩]
theorem z_B : isB 0 := ⟨by decide, by decide⟩
theorem valueAt_eval {s c x : Int} (hs : isB s) (hc : isB c) (hx : isB x) (k : Nat) (hk : 13 ≤ k) : impl_valueAt.f k [s, c] x = some (val s c x) := by
  obtain ⟨k, rfl⟩ : ∃ j, k = j + 13 := ⟨k - 13, by omega⟩
  unfold impl_valueAt.f
  rw [show wrap64 (([s, c].length : Int) - 1) = 1 from wl _ (by first | decide | simp [sh, parts3]) (by first | decide | simp [sh, parts3]), impl_valueAt.l0, if_pos (by first | decide | simp [sh, parts3]), times_eval z_B hx _ (by omega), Option.bind_some, if_pos (by first | decide | simp [sh, parts3]), if_pos (by first | decide | simp [sh, parts3]), show wrap64 (1 - 1) = 0 from wl _ (by first | decide | simp [sh, parts3]) (by first | decide | simp [sh, parts3]),
    show rd [s, c] 1 = c from rfl, xor_u8_bx (tm_B z_B) hc, impl_valueAt.l0, if_pos (by first | decide | simp [sh, parts3]), times_eval (bx_B (tm_B z_B) hc) hx _ (by omega), Option.bind_some, if_pos (by first | decide | simp [sh, parts3]), if_pos (by first | decide | simp [sh, parts3]), show rd [s, c] 0 = s from rfl,
    xor_u8_bx (tm_B (bx_B (tm_B z_B) hc)) hs, show wrap64 (0 - 1) = -1 from w64 (by first | decide | simp [sh, parts3]) (by first | decide | simp [sh, parts3]), impl_valueAt.l0, if_neg (by first | decide | simp [sh, parts3])]
  rfl
theorem specAt_eval {s c x : Int} (hs : isB s) (hc : isB c) (hx : isB x) (k : Nat) (hk : 13 ≤ k) : spec_l7At.f k [s, c] x = some (val s c x) := by
  obtain ⟨k, rfl⟩ : ∃ j, k = j + 13 := ⟨k - 13, by omega⟩
  unfold spec_l7At.f
  rw [show wrap64 (([s, c].length : Int) - 1) = 1 from wl _ (by first | decide | simp [sh, parts3]) (by first | decide | simp [sh, parts3]), spec_l7At.l0, if_pos (by first | decide | simp [sh, parts3]), stimes_eval z_B hx _ (by omega), Option.bind_some, if_pos (by first | decide | simp [sh, parts3]), if_pos (by first | decide | simp [sh, parts3]), show wrap64 (1 - 1) = 0 from wl _ (by first | decide | simp [sh, parts3]) (by first | decide | simp [sh, parts3]),
    show rd [s, c] 1 = c from rfl, xor_u8_bx (tm_B z_B) hc, spec_l7At.l0, if_pos (by first | decide | simp [sh, parts3]), stimes_eval (bx_B (tm_B z_B) hc) hx _ (by omega), Option.bind_some, if_pos (by first | decide | simp [sh, parts3]), if_pos (by first | decide | simp [sh, parts3]), show rd [s, c] 0 = s from rfl,
    xor_u8_bx (tm_B (bx_B (tm_B z_B) hc)) hs, show wrap64 (0 - 1) = -1 from w64 (by first | decide | simp [sh, parts3]) (by first | decide | simp [sh, parts3]), spec_l7At.l0, if_neg (by first | decide | simp [sh, parts3])]
  rfl
theorem implShare_eval {s c : Int} (hs : isB s) (hc : isB c) (k : Nat) (hk : 30 ≤ k) : impl_ShareSecret.f k s [c] 4 = some (sh s c, true) := by
  obtain ⟨k, rfl⟩ : ∃ j, k = j + 30 := ⟨k - 30, by omega⟩
  have b1 : isB 1 := ⟨by decide, by decide⟩
  have b2 : isB 2 := ⟨by decide, by decide⟩
  have b3 : isB 3 := ⟨by decide, by decide⟩
  have b4 : isB 4 := ⟨by decide, by decide⟩
  unfold impl_ShareSecret.f
  rw [if_neg (by first | decide | simp [sh, parts3]), show impl_within.f 4 1 20 = some true from rfl, Option.bind_some, impl_ShareSecret.j0, if_neg (by first | decide | simp [sh, parts3]), Option.bind_some, if_pos (by first | decide | simp [sh, parts3]), show [s] ++ [c] = [s, c] from rfl,
    impl_ShareSecret.l0, if_pos (by first | decide | simp [sh, parts3]), show wrap64 (0 + 1) = 1 from wl _ (by first | decide | simp [sh, parts3]) (by first | decide | simp [sh, parts3]), show (1 : Int) % 256 = 1 from rfl, valueAt_eval hs hc b1 _ (by omega), Option.bind_some, if_pos (by simp),
    impl_ShareSecret.l0, if_pos (by first | decide | simp [sh, parts3]), show wrap64 (1 + 1) = 2 from wl _ (by first | decide | simp [sh, parts3]) (by first | decide | simp [sh, parts3]), show (2 : Int) % 256 = 2 from rfl, valueAt_eval hs hc b2 _ (by omega), Option.bind_some, if_pos (by simp),
    impl_ShareSecret.l0, if_pos (by first | decide | simp [sh, parts3]), show wrap64 (2 + 1) = 3 from wl _ (by first | decide | simp [sh, parts3]) (by first | decide | simp [sh, parts3]), show (3 : Int) % 256 = 3 from rfl, valueAt_eval hs hc b3 _ (by omega), Option.bind_some, if_pos (by simp),
    impl_ShareSecret.l0, if_pos (by first | decide | simp [sh, parts3]), show wrap64 (3 + 1) = 4 from wl _ (by first | decide | simp [sh, parts3]) (by first | decide | simp [sh, parts3]), show (4 : Int) % 256 = 4 from rfl, valueAt_eval hs hc b4 _ (by omega), Option.bind_some, if_pos (by simp),
    impl_ShareSecret.l0, if_neg (by first | decide | simp [sh, parts3])]
  rfl
theorem specShare_eval {s c : Int} (hs : isB s) (hc : isB c) (k : Nat) (hk : 30 ≤ k) : spec_ShareSecret.f k s [c] 4 = some (sh s c, true) := by
  obtain ⟨k, rfl⟩ : ∃ j, k = j + 30 := ⟨k - 30, by omega⟩
  have b1 : isB 1 := ⟨by decide, by decide⟩
  have b2 : isB 2 := ⟨by decide, by decide⟩
  have b3 : isB 3 := ⟨by decide, by decide⟩
  have b4 : isB 4 := ⟨by decide, by decide⟩
  unfold spec_ShareSecret.f
  rw [if_neg (by first | decide | simp [sh, parts3]), show spec_l1In.f 4 1 20 = some true from rfl, Option.bind_some, spec_ShareSecret.j0, if_neg (by first | decide | simp [sh, parts3]), Option.bind_some, if_pos (by first | decide | simp [sh, parts3]), show [s] ++ [c] = [s, c] from rfl,
    spec_ShareSecret.l0, if_pos (by first | decide | simp [sh, parts3]), show wrap64 (1 + 1) = 2 from wl _ (by first | decide | simp [sh, parts3]) (by first | decide | simp [sh, parts3]), show (1 : Int) % 256 = 1 from rfl, specAt_eval hs hc b1 _ (by omega), Option.bind_some, if_pos (by simp),
    spec_ShareSecret.l0, if_pos (by first | decide | simp [sh, parts3]), show wrap64 (2 + 1) = 3 from wl _ (by first | decide | simp [sh, parts3]) (by first | decide | simp [sh, parts3]), show (2 : Int) % 256 = 2 from rfl, specAt_eval hs hc b2 _ (by omega), Option.bind_some, if_pos (by simp),
    spec_ShareSecret.l0, if_pos (by first | decide | simp [sh, parts3]), show wrap64 (3 + 1) = 4 from wl _ (by first | decide | simp [sh, parts3]) (by first | decide | simp [sh, parts3]), show (3 : Int) % 256 = 3 from rfl, specAt_eval hs hc b3 _ (by omega), Option.bind_some, if_pos (by simp),
    spec_ShareSecret.l0, if_pos (by first | decide | simp [sh, parts3]), show wrap64 (4 + 1) = 5 from wl _ (by first | decide | simp [sh, parts3]) (by first | decide | simp [sh, parts3]), show (4 : Int) % 256 = 4 from rfl, specAt_eval hs hc b4 _ (by omega), Option.bind_some, if_pos (by simp),
    spec_ShareSecret.l0, if_neg (by first | decide | simp [sh, parts3])]
  rfl
theorem implCols (a : ByteArray) (A B C D : List Int) (n i s c : Int) (hA : A.length < 1000) (hB : B.length < 1000) (hC : C.length < 1000) (hD : D.length < 1000) (k : Nat) :
    impl_partsFor.l1 (k + 5) a [A, B, C, D] n i (sh s c) 4 0 = impl_partsFor.l0 k a [A ++ [val s c 1], B ++ [val s c 2], C ++ [val s c 3], D ++ [val s c 4]] n (wrap64 (i + 1)) := by
  have e0 : ∀ (X Y Z W : List Int), rd_L1 [X, Y, Z, W] 0 = X := fun _ _ _ _ => rfl
  have e1 : ∀ (X Y Z W : List Int), rd_L1 [X, Y, Z, W] 1 = Y := fun _ _ _ _ => rfl
  have e2 : ∀ (X Y Z W : List Int), rd_L1 [X, Y, Z, W] 2 = Z := fun _ _ _ _ => rfl
  have e3 : ∀ (X Y Z W : List Int), rd_L1 [X, Y, Z, W] 3 = W := fun _ _ _ _ => rfl
  rw [impl_partsFor.l1, if_pos (by first | decide | simp [sh, parts3]), if_pos (by first | decide | simp [sh, parts3]), if_pos (by first | decide | simp [sh, parts3]), if_pos (by first | decide | simp [sh, parts3]), e0, if_pos (by omega), show wrap64 (0 + 1) = 1 from wl _ (by first | decide | simp [sh, parts3]) (by first | decide | simp [sh, parts3]), show (0 : Int).toNat = 0 from rfl, List.set_cons_zero,
    impl_partsFor.l1, if_pos (by first | decide | simp [sh, parts3]), if_pos (by first | decide | simp [sh, parts3]), if_pos (by first | decide | simp [sh, parts3]), if_pos (by simp), e1, if_pos (by omega), show wrap64 (1 + 1) = 2 from wl _ (by first | decide | simp [sh, parts3]) (by first | decide | simp [sh, parts3]), show (1 : Int).toNat = 1 from rfl, List.set_cons_succ, List.set_cons_zero,
    impl_partsFor.l1, if_pos (by first | decide | simp [sh, parts3]), if_pos (by first | decide | simp [sh, parts3]), if_pos (by first | decide | simp [sh, parts3]), if_pos (by simp), e2, if_pos (by omega), show wrap64 (2 + 1) = 3 from wl _ (by first | decide | simp [sh, parts3]) (by first | decide | simp [sh, parts3]), show (2 : Int).toNat = 2 from rfl, List.set_cons_succ, List.set_cons_succ, List.set_cons_zero,
    impl_partsFor.l1, if_pos (by first | decide | simp [sh, parts3]), if_pos (by first | decide | simp [sh, parts3]), if_pos (by first | decide | simp [sh, parts3]), if_pos (by simp), e3, if_pos (by omega), show wrap64 (3 + 1) = 4 from wl _ (by first | decide | simp [sh, parts3]) (by first | decide | simp [sh, parts3]), show (3 : Int).toNat = 3 from rfl, List.set_cons_succ, List.set_cons_succ, List.set_cons_succ, List.set_cons_zero,
    impl_partsFor.l1, if_neg (by first | decide | simp [sh, parts3])]
  rfl
theorem specCols (a : ByteArray) (A B C D : ByteArray) (i s c : Int) (hA : A.size < 1000) (hB : B.size < 1000) (hC : C.size < 1000) (hD : D.size < 1000) (k : Nat) :
    spec_l17Parts.l1 (k + 5) a [A, B, C, D] i (sh s c) 4 0 = spec_l17Parts.l0 k a [A ++ strOfNums [val s c 1], B ++ strOfNums [val s c 2], C ++ strOfNums [val s c 3], D ++ strOfNums [val s c 4]] (wrap64 (i + 1)) := by
  have e0 : ∀ (X Y Z W : ByteArray), rdOf ByteArray.empty [X, Y, Z, W] 0 = X := fun _ _ _ _ => rfl
  have e1 : ∀ (X Y Z W : ByteArray), rdOf ByteArray.empty [X, Y, Z, W] 1 = Y := fun _ _ _ _ => rfl
  have e2 : ∀ (X Y Z W : ByteArray), rdOf ByteArray.empty [X, Y, Z, W] 2 = Z := fun _ _ _ _ => rfl
  have e3 : ∀ (X Y Z W : ByteArray), rdOf ByteArray.empty [X, Y, Z, W] 3 = W := fun _ _ _ _ => rfl
  have z : ∀ x : Int, (strOfNums [x]).size = 1 := fun _ => rfl
  rw [spec_l17Parts.l1, if_pos (by first | decide | simp [sh, parts3]), if_pos (by first | decide | simp [sh, parts3]), if_pos (by first | decide | simp [sh, parts3]), if_pos (by simp), Option.bind_some, e0, if_pos (by rw [z]; omega), show wrap64 (0 + 1) = 1 from wl _ (by first | decide | simp [sh, parts3]) (by first | decide | simp [sh, parts3]), show (0 : Int).toNat = 0 from rfl, List.set_cons_zero,
    spec_l17Parts.l1, if_pos (by first | decide | simp [sh, parts3]), if_pos (by first | decide | simp [sh, parts3]), if_pos (by first | decide | simp [sh, parts3]), if_pos (by simp), Option.bind_some, e1, if_pos (by rw [z]; omega), show wrap64 (1 + 1) = 2 from wl _ (by first | decide | simp [sh, parts3]) (by first | decide | simp [sh, parts3]), show (1 : Int).toNat = 1 from rfl, List.set_cons_succ, List.set_cons_zero,
    spec_l17Parts.l1, if_pos (by first | decide | simp [sh, parts3]), if_pos (by first | decide | simp [sh, parts3]), if_pos (by first | decide | simp [sh, parts3]), if_pos (by simp), Option.bind_some, e2, if_pos (by rw [z]; omega), show wrap64 (2 + 1) = 3 from wl _ (by first | decide | simp [sh, parts3]) (by first | decide | simp [sh, parts3]), show (2 : Int).toNat = 2 from rfl, List.set_cons_succ, List.set_cons_succ, List.set_cons_zero,
    spec_l17Parts.l1, if_pos (by first | decide | simp [sh, parts3]), if_pos (by first | decide | simp [sh, parts3]), if_pos (by first | decide | simp [sh, parts3]), if_pos (by simp), Option.bind_some, e3, if_pos (by rw [z]; omega), show wrap64 (3 + 1) = 4 from wl _ (by first | decide | simp [sh, parts3]) (by first | decide | simp [sh, parts3]), show (3 : Int).toNat = 3 from rfl, List.set_cons_succ, List.set_cons_succ, List.set_cons_succ, List.set_cons_zero,
    spec_l17Parts.l1, if_neg (by first | decide | simp [sh, parts3])]
  rfl
def cf (i : Nat) : Int := (wrap64 (1 + (Int.tmod (i : Int) 251))) % 256
theorem cf_B (i : Nat) : isB (cf i) := ⟨by unfold cf; omega, by unfold cf; omega⟩
theorem cf_comm (i : Nat) : (wrap64 ((Int.tmod (i : Int) 251) + 1)) % 256 = cf i := by unfold cf; rw [Int.add_comm]
def col (a : ByteArray) (n : Nat) (x : Int) : List Int := tab n fun i => val (bt a (i : Int)) (cf i) x
def shared4 (a : ByteArray) : List ByteArray := [strOfNums (col a a.size 1), strOfNums (col a a.size 2), strOfNums (col a a.size 3), strOfNums (col a a.size 4)]
theorem col_length (a : ByteArray) (n : Nat) (x : Int) : (col a n x).length = n := tab_length _ _
theorem col_succ (a : ByteArray) (n : Nat) (x : Int) : col a (n + 1) x = col a n x ++ [val (bt a (n : Int)) (cf n) x] := tab_succ _ _
theorem implShared_l2 (A B C D : List Int) (k : Nat) : impl_partsFor.l2 (k + 5) [] [A, B, C, D] 4 0 = some [strOfNums A, strOfNums B, strOfNums C, strOfNums D] := by
  rw [impl_partsFor.l2, if_pos (by first | decide | simp [sh, parts3]), if_pos (by first | decide | simp [sh, parts3]), if_pos (by simp), if_pos (by simp), show wrap64 (0 + 1) = 1 from wl _ (by first | decide | simp [sh, parts3]) (by first | decide | simp [sh, parts3]),
    impl_partsFor.l2, if_pos (by first | decide | simp [sh, parts3]), if_pos (by first | decide | simp [sh, parts3]), if_pos (by simp), if_pos (by simp), show wrap64 (1 + 1) = 2 from wl _ (by first | decide | simp [sh, parts3]) (by first | decide | simp [sh, parts3]),
    impl_partsFor.l2, if_pos (by first | decide | simp [sh, parts3]), if_pos (by first | decide | simp [sh, parts3]), if_pos (by simp), if_pos (by simp), show wrap64 (2 + 1) = 3 from wl _ (by first | decide | simp [sh, parts3]) (by first | decide | simp [sh, parts3]),
    impl_partsFor.l2, if_pos (by first | decide | simp [sh, parts3]), if_pos (by first | decide | simp [sh, parts3]), if_pos (by simp), if_pos (by simp), show wrap64 (3 + 1) = 4 from wl _ (by first | decide | simp [sh, parts3]) (by first | decide | simp [sh, parts3]),
    impl_partsFor.l2, if_neg (by first | decide | simp [sh, parts3])]
  rfl
theorem implShared_l0 (a : ByteArray) (hn : a.size ≤ 60) : ∀ d t k, d = a.size - t → t ≤ a.size → d * 6 + 40 ≤ k →
    impl_partsFor.l0 k a [col a t 1, col a t 2, col a t 3, col a t 4] (a.size : Int) (t : Int) = some (shared4 a)
  | 0, t, k + 1, hd, ht, hk => by
    obtain rfl : t = a.size := by omega
    obtain ⟨j, rfl⟩ : ∃ j, k = j + 5 := ⟨k - 5, by omega⟩
    rw [impl_partsFor.l0, if_neg (by omega)]
    exact implShared_l2 _ _ _ _ j
  | d + 1, t, k + 1, hd, ht, hk => by
    obtain ⟨j, rfl⟩ : ∃ j, k = j + 5 := ⟨k - 5, by omega⟩
    rw [impl_partsFor.l0, if_pos (by omega), if_pos (by omega), if_pos (by omega)]
    change (impl_ShareSecret.f (j + 5) (bt a (t : Int)) [cf t] 4).bind _ = _
    rw [implShare_eval (bt_B a _) (cf_B t) _ (by omega), Option.bind_some]
    change impl_partsFor.l1 (j + 5) a _ _ _ (sh (bt a (t : Int)) (cf t)) 4 0 = _
    rw [implCols a _ _ _ _ _ _ _ _ (by rw [col_length]; omega) (by rw [col_length]; omega) (by rw [col_length]; omega) (by rw [col_length]; omega), w64s (by omega), ← col_succ, ← col_succ, ← col_succ, ← col_succ]
    exact implShared_l0 a hn d (t + 1) j (by omega) (by omega) (by omega)
theorem specShared_l0 (a : ByteArray) (hn : a.size ≤ 60) : ∀ d t k, d = a.size - t → t ≤ a.size → d * 6 + 40 ≤ k →
    spec_l17Parts.l0 k a [strOfNums (col a t 1), strOfNums (col a t 2), strOfNums (col a t 3), strOfNums (col a t 4)] (t : Int) = some (shared4 a)
  | 0, t, k + 1, hd, ht, hk => by
    obtain rfl : t = a.size := by omega
    rw [spec_l17Parts.l0, if_neg (by omega)]
    rfl
  | d + 1, t, k + 1, hd, ht, hk => by
    obtain ⟨j, rfl⟩ : ∃ j, k = j + 5 := ⟨k - 5, by omega⟩
    rw [spec_l17Parts.l0, if_pos (by omega), if_pos (by omega), cf_comm]
    rw [specShare_eval (bt_B a _) (cf_B t) _ (by omega), Option.bind_some]
    change spec_l17Parts.l1 (j + 5) a _ _ (sh (bt a (t : Int)) (cf t)) 4 0 = _
    rw [specCols a _ _ _ _ _ _ _ (by rw [strOfNums_size, col_length]; omega) (by rw [strOfNums_size, col_length]; omega) (by rw [strOfNums_size, col_length]; omega) (by rw [strOfNums_size, col_length]; omega), w64s (by omega),
      ← strOf_append, ← strOf_append, ← strOf_append, ← strOf_append, ← col_succ, ← col_succ, ← col_succ, ← col_succ]
    exact specShared_l0 a hn d (t + 1) j (by omega) (by omega) (by omega)
def partsV (a : ByteArray) (tier : Int) : List ByteArray := if tier = 1 then [a, a, a] else if tier = 2 then coded5 a else shared4 a
theorem mat5_rows (j : Nat) (hj : j < mat5.length) (a : ByteArray) : (∀ t : Nat, isB (rd (rd_L1 mat5 (j : Int)) (t : Int))) ∧ (parts3 a).length ≤ (rd_L1 mat5 (j : Int)).length :=
  ⟨(mat_rows j hj).1, by rw [(mat_rows j hj).2]; exact Nat.le_refl 3⟩
theorem implParts_ev (a : ByteArray) (tier : Int) (hn : a.size ≤ 60) : Ev (fun k => impl_partsFor.f k a tier) (partsV a tier) := by
  unfold partsV
  by_cases h1 : tier = 1
  · subst h1
    exact Ev.const _
  · by_cases h2 : tier = 2
    · subst h2
      rw [if_neg h1, if_pos rfl]
      refine Ev.congr (g := fun k => (impl_SplitText.f k a 3).bind fun bt104 => (impl_codeRowsV.f k 3 2).bind fun t108 => (impl_combined.f k t108 bt104.1).bind fun t111 => some t111) (fun k => by unfold impl_partsFor.f; rw [if_neg (by first | decide | simp [sh, parts3]), if_pos rfl]) ?_
      refine Ev.bind (Ev.from 10 fun k hk => implSplit_eval a hn k hk) (Ev.bind mat_ev (Ev.bind (a := coded5 a) (Ev.from 200 fun k hk => ?_) (Ev.const _)))
      have h3 : each3 a.size ≤ 20 := by unfold each3; omega
      exact combined_eval (parts3 a) mat5 (each3 a.size) (by omega) (parts3_size a) (by first | decide | simp [sh, parts3]) (by first | decide | simp [sh, parts3]) (fun j hj => mat5_rows j hj a) (by first | decide | simp [sh, parts3]) k (by simp only [show (parts3 a).length = 3 from rfl, show mat5.length = 5 from rfl]; omega)
    · rw [if_neg h1, if_neg h2]
      refine Ev.congr (g := fun k => impl_partsFor.l0 k a (List.replicate 4 []) (a.size : Int) 0) (fun k => by unfold impl_partsFor.f; rw [if_neg h1, if_neg h2, if_pos (by first | decide | simp [sh, parts3])]) ?_
      exact Ev.from 1000 fun k hk => implShared_l0 a hn a.size 0 k (by omega) (by omega) (by omega)
theorem specParts_ev (a : ByteArray) (tier : Int) (hn : a.size ≤ 60) : Ev (fun k => spec_l17Parts.f k a tier) (partsV a tier) := by
  unfold partsV
  by_cases h1 : tier = 1
  · subst h1
    exact Ev.const _
  · by_cases h2 : tier = 2
    · subst h2
      rw [if_neg h1, if_pos rfl]
      refine Ev.congr (g := fun k => (spec_l3MatrixV.f k 3 2).bind fun t104 => (spec_l3Split.f k a 3).bind fun t107 => (spec_l3Rows.f k t104 t107).bind fun t110 => some t110) (fun k => by unfold spec_l17Parts.f; rw [if_neg (by first | decide | simp [sh, parts3]), if_pos rfl]) ?_
      refine Ev.bind smat_ev (Ev.bind (Ev.from 10 fun k hk => specSplit_eval a hn k hk) (Ev.bind (a := coded5 a) (Ev.from 2000 fun k hk => ?_) (Ev.const _)))
      have h3 : each3 a.size ≤ 20 := by unfold each3; omega
      exact rows_eval (parts3 a) mat5 (each3 a.size) (by omega) (parts3_size a) (by first | decide | simp [sh, parts3]) (by first | decide | simp [sh, parts3]) (fun j hj => ⟨(mat_rows j hj).1, (mat_rows j hj).2⟩) (by first | decide | simp [sh, parts3]) k (by simp only [show (parts3 a).length = 3 from rfl, show mat5.length = 5 from rfl]; omega)
    · rw [if_neg h1, if_neg h2]
      refine Ev.congr (g := fun k => spec_l17Parts.l0 k a (List.replicate 4 (⟨#[]⟩ : ByteArray)) 0) (fun k => by unfold spec_l17Parts.f; rw [if_neg h1, if_neg h2, if_pos (by first | decide | simp [sh, parts3])]) ?_
      exact Ev.from 1000 fun k hk => specShared_l0 a hn a.size 0 k (by omega) (by omega) (by omega)
def partsR (a : ByteArray) (tier : Int) : List ByteArray × Bool := if a.size ≤ 60 ∧ 1 ≤ tier ∧ tier ≤ 3 then (partsV a tier, true) else ([], false)
theorem implPartsFor_ev (a : ByteArray) (tier : Int) : Ev (fun k => impl_PartsFor.f k a tier) (partsR a tier) := by
  unfold partsR
  have hw : impl_isTier.f tier = some (decide (1 ≤ tier ∧ tier ≤ 3)) := by
    unfold impl_isTier.f impl_within.f
    by_cases h1 : tier ≥ 1
    · rw [if_pos h1, Option.bind_some]; congr 1; exact decide_eq_decide.mpr ⟨fun h => ⟨h1, h⟩, fun h => h.2⟩
    · rw [if_neg h1, Option.bind_some]; congr 1; exact (decide_eq_false (fun h => h1 h.1)).symm
  by_cases hs : a.size ≤ 60
  · by_cases ht : 1 ≤ tier ∧ tier ≤ 3
    · rw [if_pos ⟨hs, ht⟩]
      refine Ev.congr (g := fun k => (impl_partsFor.f k a tier).bind fun t102 => some (t102, true)) (fun k => ?_) (Ev.bind (implParts_ev a tier hs) (Ev.const _))
      unfold impl_PartsFor.f
      rw [if_neg (by omega), hw, Option.bind_some, if_pos (decide_eq_true ht)]
    · rw [if_neg (fun h => ht h.2)]
      refine Ev.congr (g := fun k => some ([], false)) (fun k => ?_) (Ev.const _)
      unfold impl_PartsFor.f
      rw [if_neg (by omega), hw, Option.bind_some, if_neg (by simpa using ht)]
  · rw [if_neg (fun h => hs h.1)]
    refine Ev.congr (g := fun k => some ([], false)) (fun k => ?_) (Ev.const _)
    unfold impl_PartsFor.f
    rw [if_pos (by omega)]
theorem specPartsFor_ev (a : ByteArray) (tier : Int) : Ev (fun k => spec_PartsFor.f k a tier) (partsR a tier) := by
  unfold partsR
  have hw : spec_l17Tier.f tier = some (decide (1 ≤ tier ∧ tier ≤ 3)) := by
    unfold spec_l17Tier.f spec_l1In.f
    by_cases h1 : tier ≥ 1
    · rw [if_pos h1, Option.bind_some]; congr 1; exact decide_eq_decide.mpr ⟨fun h => ⟨h1, h⟩, fun h => h.2⟩
    · rw [if_neg h1, Option.bind_some]; congr 1; exact (decide_eq_false (fun h => h1 h.1)).symm
  by_cases hs : a.size ≤ 60
  · by_cases ht : 1 ≤ tier ∧ tier ≤ 3
    · rw [if_pos ⟨hs, ht⟩]
      refine Ev.congr (g := fun k => (spec_l17Parts.f k a tier).bind fun t102 => some (t102, true)) (fun k => ?_) (Ev.bind (specParts_ev a tier hs) (Ev.const _))
      unfold spec_PartsFor.f
      rw [if_neg (by omega), hw, Option.bind_some, if_pos (decide_eq_true ht)]
    · rw [if_neg (fun h => ht h.2)]
      refine Ev.congr (g := fun k => some ([], false)) (fun k => ?_) (Ev.const _)
      unfold spec_PartsFor.f
      rw [if_neg (by omega), hw, Option.bind_some, if_neg (by simpa using ht)]
  · rw [if_neg (fun h => hs h.1)]
    refine Ev.congr (g := fun k => some ([], false)) (fun k => ?_) (Ev.const _)
    unfold spec_PartsFor.f
    rw [if_pos (by omega)]
end Go.Proofs.Ytoojllfbipfdkaa.Ev
namespace Go.Proofs.Ytoojllfbipfdkaa.Ev
open Go.RowKit Go.Proofs.Ytoojllfbipfdkaa.L Go.Proofs.YtoojllfbipfdkaaW.PrintWords Go.Proofs.YtoojllfbipfdkaaW.PrintLast Gf
set_option linter.unusedVariables false
set_option linter.unusedSimpArgs false
theorem eqPart_self (x : S49) : laws_eqPart.f x.f0 x.f1 x.f2 x.f0 x.f1 x.f2 = some true := by simp [laws_eqPart.f]
theorem eqKept_self (x : S47) : laws_eqKept.f x.f0 x.f1 x.f0 x.f1 = some true := by simp [laws_eqKept.f]
theorem eqPartS_l0 (xs : List S49) (hn : xs.length < 4294967296) : ∀ d t k, d = xs.length - t → t ≤ xs.length → d + 1 ≤ k → laws_eqPartS.l0 k xs xs (t : Int) = some true
  | 0, t, k + 1, hd, ht, hk => by rw [laws_eqPartS.l0, if_neg (by omega)]
  | d + 1, t, k + 1, hd, ht, hk => by
    rw [laws_eqPartS.l0, if_pos (by omega), if_pos (by omega), if_pos (by omega), eqPart_self, Option.bind_some, if_pos rfl, w64s (by omega)]
    exact eqPartS_l0 xs hn d (t + 1) k (by omega) (by omega) (by omega)
theorem eqKeptS_l0 (xs : List S47) (hn : xs.length < 4294967296) : ∀ d t k, d = xs.length - t → t ≤ xs.length → d + 1 ≤ k → laws_eqKeptS.l0 k xs xs (t : Int) = some true
  | 0, t, k + 1, hd, ht, hk => by rw [laws_eqKeptS.l0, if_neg (by omega)]
  | d + 1, t, k + 1, hd, ht, hk => by
    rw [laws_eqKeptS.l0, if_pos (by omega), if_pos (by omega), if_pos (by omega), eqKept_self, Option.bind_some, if_pos rfl, w64s (by omega)]
    exact eqKeptS_l0 xs hn d (t + 1) k (by omega) (by omega) (by omega)
theorem eqShelf_self (xs : List S49) (ys : List S47) (hx : xs.length < 4294967296) (hy : ys.length < 4294967296) : Ev (fun k => laws_eqShelf.f k xs ys xs ys) true := by
  refine Ev.from (xs.length + ys.length + 1) fun k hk => ?_
  have h1 := eqPartS_l0 xs hx xs.length 0 k (by omega) (by omega) (by omega)
  have h2 := eqKeptS_l0 ys hy ys.length 0 k (by omega) (by omega) (by omega)
  unfold laws_eqShelf.f laws_eqPartS.f laws_eqKeptS.f
  rw [if_pos rfl, if_pos rfl]
  rw [show ((0 : Nat) : Int) = 0 from rfl] at h1 h2
  rw [h1, Option.bind_some, if_pos rfl, h2, Option.bind_some, if_pos rfl]
def zP : S49 := ⟨0, 0, ⟨#[]⟩⟩
def zK : S47 := ⟨0, 0⟩
theorem law_of (a : ByteArray) (tier : Int) (hs : a.size ≤ 1048576) (xs : List S49) (ys : List S47) (b : Bool) (m : Int) (X : List S49) (Y : List S47) (hx : xs.length < 100) (hy : ys.length < 100)
    (hS : Ev (fun k => spec_NewShelf.f k a tier) (xs, ys, b)) (hI : Ev (fun k => impl_NewShelf.f k a tier) (xs, ys, b)) (hM : Ev (fun k => laws_markShelf.f k xs ys 1) (m, X, Y))
    (hH : Ev (fun k => laws_heldShelf.f k X Y 1) m) (hm : 0 ≤ m) : Ev (fun k => laws_FnExactNewShelf.f k a tier) true := by
  have hE := eqShelf_self xs ys (by omega) (by omega)
  have hb : (b != b) = false := by cases b <;> rfl
  have hj1 : Ev (fun k => laws_FnExactNewShelf.j1 k m false X Y) true := by
    refine Ev.succ (g := fun k => (laws_heldShelf.f k X Y 1).bind fun t131 => if t131 < 0 then some false else if t131 = m then some true else some false) (fun k => by rw [laws_FnExactNewShelf.j1]; rfl) ?_
    refine Ev.bind hH (Ev.congr (fun k => ?_) (Ev.const true))
    rw [if_neg (by omega), if_pos rfl]
  have hj0 : Ev (fun k => laws_FnExactNewShelf.j0 k a tier b false xs ys xs ys) true := by
    refine Ev.succ (g := fun k => (laws_markShelf.f k xs ys 1).bind fun bt118 => (laws_heldShelf.f k bt118.2.1 bt118.2.2 1).bind fun t121 => if t121 < 0 then some false else if t121 = bt118.1 then (impl_NewShelf.f k a tier).bind fun bt122 => (laws_eqShelf.f k bt122.1 bt122.2.1 xs ys).bind fun t130 =>
      if t130 = true then laws_FnExactNewShelf.j1 k bt118.1 (bt122.2.2 != b) bt118.2.1 bt118.2.2 else laws_FnExactNewShelf.j1 k bt118.1 true bt118.2.1 bt118.2.2 else some false) (fun k => by rw [laws_FnExactNewShelf.j0]; rfl) ?_
    refine Ev.bind hM (Ev.bind hH (Ev.ite_not (by omega) (Ev.ite rfl (Ev.bind hI (Ev.bind hE (Ev.ite rfl ?_))))))
    exact Ev.congr (fun k => by rw [hb]) hj1
  refine Ev.congr (g := fun k => (spec_NewShelf.f k a tier).bind fun bt101 => (impl_NewShelf.f k a tier).bind fun bt109 => (laws_eqShelf.f k bt109.1 bt109.2.1 bt101.1 bt101.2.1).bind fun t117 =>
    if t117 = true then laws_FnExactNewShelf.j0 k a tier bt101.2.2 (bt109.2.2 != bt101.2.2) bt101.1 bt101.2.1 bt109.1 bt109.2.1 else laws_FnExactNewShelf.j0 k a tier bt101.2.2 true bt101.1 bt101.2.1 bt109.1 bt109.2.1) (fun k => by unfold laws_FnExactNewShelf.f; rw [if_neg (by omega)]) ?_
  refine Ev.bind hS (Ev.bind hI (Ev.bind hE (Ev.ite rfl ?_)))
  exact Ev.congr (fun k => by rw [hb]) hj0
theorem mark_ev (xs : List S49) (ys : List S47) {m : Int} {X : List S49} {Y : List S47} (h : laws_markShelf.f 60 xs ys 1 = some (m, X, Y)) : Ev (fun k => laws_markShelf.f k xs ys 1) (m, X, Y) := Ev.mono (f := fun k => laws_markShelf.f k xs ys 1) (fun k => laws_markShelf.mono xs ys 1 k) h
theorem held_ev (xs : List S49) (ys : List S47) {m : Int} (h : laws_heldShelf.f 60 xs ys 1 = some m) : Ev (fun k => laws_heldShelf.f k xs ys 1) m := Ev.mono (f := fun k => laws_heldShelf.f k xs ys 1) (fun k => laws_heldShelf.mono xs ys 1 k) h
def okMarks (xs : List S49) (ys : List S47) : Bool := match laws_markShelf.f 60 xs ys 1 with
  | some (m, X, Y) => decide (laws_heldShelf.f 60 X Y 1 = some m) && decide (0 ≤ m)
  | none => false
theorem okMarks_ev {xs zs : List S49} {ys ws : List S47} (he : laws_markShelf.f 60 xs ys 1 = laws_markShelf.f 60 zs ws 1) (h : okMarks zs ws = true) : ∃ m X Y, Ev (fun k => laws_markShelf.f k xs ys 1) (m, X, Y) ∧ Ev (fun k => laws_heldShelf.f k X Y 1) m ∧ 0 ≤ m := by
  unfold okMarks at h
  split at h
  · rename_i m X Y hm
    simp only [Bool.and_eq_true, decide_eq_true_eq] at h
    exact ⟨m, X, Y, mark_ev xs ys (he.trans hm), held_ev X Y h.1, h.2⟩
  · cases h
theorem spec_of (a : ByteArray) (tier : Int) (ps : List ByteArray) (xs : List S49) (hp : partsR a tier = (ps, true)) (h : ∀ k, spec_NewShelf.l0 (k + 60) ps (ps.length : Int) 0 [] [(⟨tier, (a.size : Int)⟩ : S47)] = some (xs, [⟨tier, (a.size : Int)⟩], true)) :
    Ev (fun k => spec_NewShelf.f k a tier) (xs, [⟨tier, (a.size : Int)⟩], true) := by
  refine Ev.congr (g := fun k => (spec_PartsFor.f k a tier).bind fun bt102 => if bt102.2 = true then spec_NewShelf.l0 k bt102.1 (bt102.1.length : Int) 0 [] [(⟨tier, (a.size : Int)⟩ : S47)] else some ([], [], false)) (fun k => rfl) ?_
  exact Ev.bind (hp ▸ specPartsFor_ev a tier) (Ev.ite rfl (Ev.from 60 fun k hk => by obtain ⟨j, rfl⟩ : ∃ j, k = j + 60 := ⟨k - 60, by omega⟩; exact h j))
theorem impl_of (a : ByteArray) (tier : Int) (ps : List ByteArray) (xs : List S49) (hp : partsR a tier = (ps, true)) (h : ∀ k, impl_NewShelf.l0 (k + 60) ps (ps.length : Int) 0 [] [(⟨tier, (a.size : Int)⟩ : S47)] = some (xs, [⟨tier, (a.size : Int)⟩], true)) :
    Ev (fun k => impl_NewShelf.f k a tier) (xs, [⟨tier, (a.size : Int)⟩], true) := by
  refine Ev.congr (g := fun k => (impl_PartsFor.f k a tier).bind fun bt102 => if bt102.2 = true then impl_NewShelf.l0 k bt102.1 (bt102.1.length : Int) 0 [] [(⟨tier, (a.size : Int)⟩ : S47)] else some ([], [], false)) (fun k => rfl) ?_
  exact Ev.bind (hp ▸ implPartsFor_ev a tier) (Ev.ite rfl (Ev.from 60 fun k hk => by obtain ⟨j, rfl⟩ : ∃ j, k = j + 60 := ⟨k - 60, by omega⟩; exact h j))
set_option maxRecDepth 100000 in
theorem spec3 (k : Nat) (p q r : ByteArray) (Y : List S47) : spec_NewShelf.l0 (k + 60) [p, q, r] 3 0 [] Y = some ([⟨1, 0, p⟩, ⟨1, 1, q⟩, ⟨1, 2, r⟩], Y, true) := by kernel_rfl
set_option maxRecDepth 100000 in
theorem spec4 (k : Nat) (p q r s : ByteArray) (Y : List S47) : spec_NewShelf.l0 (k + 60) [p, q, r, s] 4 0 [] Y = some ([⟨1, 0, p⟩, ⟨1, 1, q⟩, ⟨1, 2, r⟩, ⟨1, 3, s⟩], Y, true) := by kernel_rfl
set_option maxRecDepth 100000 in
theorem spec5 (k : Nat) (p q r s t : ByteArray) (Y : List S47) : spec_NewShelf.l0 (k + 60) [p, q, r, s, t] 5 0 [] Y = some ([⟨1, 0, p⟩, ⟨1, 1, q⟩, ⟨1, 2, r⟩, ⟨1, 3, s⟩, ⟨1, 4, t⟩], Y, true) := by kernel_rfl
set_option maxRecDepth 100000 in
theorem impl3 (k : Nat) (p q r : ByteArray) (Y : List S47) : impl_NewShelf.l0 (k + 60) [p, q, r] 3 0 [] Y = some ([⟨1, 0, p⟩, ⟨1, 1, q⟩, ⟨1, 2, r⟩], Y, true) := by kernel_rfl
set_option maxRecDepth 100000 in
theorem impl4 (k : Nat) (p q r s : ByteArray) (Y : List S47) : impl_NewShelf.l0 (k + 60) [p, q, r, s] 4 0 [] Y = some ([⟨1, 0, p⟩, ⟨1, 1, q⟩, ⟨1, 2, r⟩, ⟨1, 3, s⟩], Y, true) := by kernel_rfl
set_option maxRecDepth 100000 in
theorem impl5 (k : Nat) (p q r s t : ByteArray) (Y : List S47) : impl_NewShelf.l0 (k + 60) [p, q, r, s, t] 5 0 [] Y = some ([⟨1, 0, p⟩, ⟨1, 1, q⟩, ⟨1, 2, r⟩, ⟨1, 3, s⟩, ⟨1, 4, t⟩], Y, true) := by kernel_rfl
set_option maxRecDepth 100000 in
theorem mark3 (p q r : ByteArray) (x y : Int) : laws_markShelf.f 60 [(⟨1, 0, p⟩ : S49), ⟨1, 1, q⟩, ⟨1, 2, r⟩] [(⟨x, y⟩ : S47)] 1 = laws_markShelf.f 60 [zP, zP, zP] [zK] 1 := by kernel_rfl
set_option maxRecDepth 100000 in
theorem mark4 (p q r s : ByteArray) (x y : Int) : laws_markShelf.f 60 [(⟨1, 0, p⟩ : S49), ⟨1, 1, q⟩, ⟨1, 2, r⟩, ⟨1, 3, s⟩] [(⟨x, y⟩ : S47)] 1 = laws_markShelf.f 60 [zP, zP, zP, zP] [zK] 1 := by kernel_rfl
set_option maxRecDepth 100000 in
theorem mark5 (p q r s t : ByteArray) (x y : Int) : laws_markShelf.f 60 [(⟨1, 0, p⟩ : S49), ⟨1, 1, q⟩, ⟨1, 2, r⟩, ⟨1, 3, s⟩, ⟨1, 4, t⟩] [(⟨x, y⟩ : S47)] 1 = laws_markShelf.f 60 [zP, zP, zP, zP, zP] [zK] 1 := by kernel_rfl
theorem okM0 : okMarks [] [] = true := by decide +kernel
theorem okM3 : okMarks [zP, zP, zP] [zK] = true := by decide +kernel
theorem okM4 : okMarks [zP, zP, zP, zP] [zK] = true := by decide +kernel
theorem okM5 : okMarks [zP, zP, zP, zP, zP] [zK] = true := by decide +kernel
theorem newShelf_ev (a : ByteArray) (tier : Int) : Ev (fun k => laws_FnExactNewShelf.f k a tier) true := by
  by_cases hs : a.size ≤ 1048576
  · by_cases hc : a.size ≤ 60 ∧ 1 ≤ tier ∧ tier ≤ 3
    · have hp : partsR a tier = (partsV a tier, true) := if_pos hc
      by_cases h1 : tier = 1
      · have hv : partsV a tier = [a, a, a] := if_pos h1
        rw [hv] at hp
        obtain ⟨m, X, Y, hM, hH, hm⟩ := okMarks_ev (mark3 a a a tier (a.size : Int)) okM3
        exact law_of a tier hs _ _ _ m X Y (by simp) (by simp) (spec_of a tier _ _ hp (fun k => spec3 k _ _ _ _)) (impl_of a tier _ _ hp (fun k => impl3 k _ _ _ _)) hM hH hm
      · by_cases h2 : tier = 2
        · have hv : partsV a tier = coded5 a := (if_neg h1).trans (if_pos h2)
          rw [hv] at hp
          obtain ⟨m, X, Y, hM, hH, hm⟩ := okMarks_ev (mark5 _ _ _ _ _ tier (a.size : Int)) okM5
          exact law_of a tier hs _ _ _ m X Y (by simp) (by simp) (spec_of a tier _ _ hp (fun k => spec5 k _ _ _ _ _ _)) (impl_of a tier _ _ hp (fun k => impl5 k _ _ _ _ _ _)) hM hH hm
        · have hv : partsV a tier = shared4 a := (if_neg h1).trans (if_neg h2)
          rw [hv] at hp
          obtain ⟨m, X, Y, hM, hH, hm⟩ := okMarks_ev (mark4 _ _ _ _ tier (a.size : Int)) okM4
          exact law_of a tier hs _ _ _ m X Y (by simp) (by simp) (spec_of a tier _ _ hp (fun k => spec4 k _ _ _ _ _)) (impl_of a tier _ _ hp (fun k => impl4 k _ _ _ _ _)) hM hH hm
    · have hp : partsR a tier = ([], false) := if_neg hc
      obtain ⟨m, X, Y, hM, hH, hm⟩ := okMarks_ev (xs := []) (ys := []) rfl okM0
      refine law_of a tier hs [] [] false m X Y (by simp) (by simp) ?_ ?_ hM hH hm
      · exact Ev.bind (f := fun k => spec_PartsFor.f k a tier) (g := fun k bt102 => if bt102.2 = true then spec_NewShelf.l0 k bt102.1 (bt102.1.length : Int) 0 [] [(⟨tier, (a.size : Int)⟩ : S47)] else some ([], [], false)) (hp ▸ specPartsFor_ev a tier) (Ev.ite_not (by decide) (Ev.const _))
      · exact Ev.bind (f := fun k => impl_PartsFor.f k a tier) (g := fun k bt102 => if bt102.2 = true then impl_NewShelf.l0 k bt102.1 (bt102.1.length : Int) 0 [] [(⟨tier, (a.size : Int)⟩ : S47)] else some ([], [], false)) (hp ▸ implPartsFor_ev a tier) (Ev.ite_not (by decide) (Ev.const _))
  · refine Ev.congr (fun k => ?_) (Ev.const true)
    unfold laws_FnExactNewShelf.f
    rw [if_pos (by omega)]
end Go.Proofs.Ytoojllfbipfdkaa.Ev
namespace Go.Proofs.Ytoojllfbipfdkaa.Pure
open Go.Proofs.Ytoojllfbipfdkaa.L
theorem FnExactNewShelf : laws_FnExactNewShelf.Pure := fun a0 a1 _ _ => (Ev.newShelf_ev a0 a1).at
end Go.Proofs.Ytoojllfbipfdkaa.Pure
