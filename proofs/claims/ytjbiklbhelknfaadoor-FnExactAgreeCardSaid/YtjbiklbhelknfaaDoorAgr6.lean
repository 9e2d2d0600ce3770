/- Agree of the program returns what the reference's returns, at every argument. Conditions: those of each theorem. Part 6 of 7. -/
import Derived.Test.YtjbiklbhelknfaaDoorAgr2
import Derived.Test.YtjbiklbhelknfaaDoorAgr3
import Derived.Test.YtjbiklbhelknfaaDoorAgr5
import Derived.Test.YtjbiklbhelknfaaDoorAgr1
section
namespace Go.Proofs.YtjbiklbhelknfaaDoor.P
open Go.RowKit Go.Proofs.YtjbiklbhelknfaaDoorW.PrintWords Go.Proofs.YtjbiklbhelknfaaDoorW.PrintLast Go.Proofs.YtjbiklbhelknfaaDoorW.PrintMore
set_option linter.unusedVariables false
set_option linter.unusedSimpArgs false

abbrev u5_S0 (a0_0 : Int) (a0_1 : Int) (a0_2 : Bool) (a1_0 : Int) (a1_1 : Int) (a1_2 : Bool) (a2_0 : Int) (a2_1 : Int) (a2_2 : Bool) (gb367 : Nat) (gb368 : Nat) (gb369 : Nat) (w' : World) : Prop := w'.cell? ⟨gb367, 0, none⟩ = some (.int .u64 a0_0) ∧ w'.cell? ⟨gb367, 1, none⟩ = some (.int .u64 a0_1) ∧ w'.cell? ⟨gb367, 2, none⟩ = some (.bool a0_2) ∧ w'.cell? ⟨gb368, 0, none⟩ = some (.int .u64 a1_0) ∧ w'.cell? ⟨gb368, 1, none⟩ = some (.int .u64 a1_1) ∧ w'.cell? ⟨gb368, 2, none⟩ = some (.bool a1_2) ∧ w'.cell? ⟨gb369, 0, none⟩ = some (.int .u64 a2_0) ∧ w'.cell? ⟨gb369, 1, none⟩ = some (.int .u64 a2_1) ∧ w'.cell? ⟨gb369, 2, none⟩ = some (.bool a2_2)
def laws_FnExactAgree.f (k : Nat) (a0_0 : Int) (a0_1 : Int) (a0_2 : Bool) (a1_0 : Int) (a1_1 : Int) (a1_2 : Bool) (a2_0 : Int) (a2_1 : Int) (a2_2 : Bool) (a3 : ByteArray) : Option (Bool) := if (a3.size : Int) > 1048576 then (some true) else ((laws_toPoint.f a0_0 a0_1 a0_2).bind fun bt370 => ((laws_toPoint.f a1_0 a1_1 a1_2).bind fun bt373 => ((laws_toPoint.f a2_0 a2_1 a2_2).bind fun bt376 => ((spec_Agree.f k bt370.1 bt370.2.1 bt370.2.2 bt373.1 bt373.2.1 bt373.2.2 bt376.1 bt376.2.1 bt376.2.2 a3).bind fun bt379 => ((laws_toPoint.f a0_0 a0_1 a0_2).bind fun bt383 => ((laws_toPoint.f a1_0 a1_1 a1_2).bind fun bt386 => ((laws_toPoint.f a2_0 a2_1 a2_2).bind fun bt389 => ((impl_Agree.f k bt383.1 bt383.2.1 bt383.2.2 bt386.1 bt386.2.1 bt386.2.2 bt389.1 bt389.2.1 bt389.2.2 a3).bind fun bt392 => ((laws_eqKeys.f bt392.1 bt392.2.1 bt392.2.2 bt379.1 bt379.2.1 bt379.2.2).bind fun t396 => (if t396 = true then (some true) else (some false)))))))))))
def laws_FnExactAgree.T3 : Bool × List (List Nat × List Nat) := (true, [([], []), ([0], [0]), ([], []), ([2, 1], [2]), ([], []), ([4, 3], [4]), ([], []), ([1, 3, 5, 6, 5], [1, 3, 5, 6]), ([], []), ([8, 7, 7, 0, 1, 2, 3, 4, 5, 6, 7, 8], [7, 8])])
def laws_FnExactAgree.B3 : List Nat := [0, 1, 0, 7, 0, 31, 0, 127, 0, 511]
theorem laws_FnExactAgree.tab3 : rtab .any (opsOf Tryd.f5 3) = laws_FnExactAgree.T3 := by kernel_rfl
theorem laws_FnExactAgree.bits3 : waitsOk laws_FnExactAgree.T3.2 laws_FnExactAgree.B3 = true := by kernel_rfl
def laws_FnExactAgree.T4 : Bool × List (List Nat × List Nat) := (true, [([], []), ([0], [0]), ([], []), ([2, 1], [2]), ([], []), ([4, 3], [4]), ([], []), ([1, 3, 5, 6, 5], [1, 3, 5, 6]), ([], []), ([8, 7, 7, 0, 1, 2, 3, 4, 5, 6, 7, 8], [7, 8])])
def laws_FnExactAgree.B4 : List Nat := [0, 1, 0, 7, 0, 31, 0, 127, 0, 511]
theorem laws_FnExactAgree.tab4 : rtab .any (opsOf Tryd.f5 4) = laws_FnExactAgree.T4 := by kernel_rfl
theorem laws_FnExactAgree.bits4 : waitsOk laws_FnExactAgree.T4.2 laws_FnExactAgree.B4 = true := by kernel_rfl
set_option maxHeartbeats 8000000 in
set_option maxRecDepth 100000 in
theorem laws_FnExactAgree.calls (k : Nat) (a0_0 : Int) (a0_1 : Int) (a0_2 : Bool) (a1_0 : Int) (a1_1 : Int) (a1_2 : Bool) (a2_0 : Int) (a2_1 : Int) (a2_2 : Bool) (a3 : ByteArray) (r : Bool) (w : World) (h : laws_FnExactAgree.f k a0_0 a0_1 a0_2 a1_0 a1_1 a1_2 a2_0 a2_1 a2_2 a3 = some r) (hG : Glob w) (hZ : GlobZ w) :
  Calls Tryd.prog 5 #[.agg #[.int .u64 a0_0, .int .u64 a0_1, .bool a0_2], .agg #[.int .u64 a1_0, .int .u64 a1_1, .bool a1_2], .agg #[.int .u64 a2_0, .int .u64 a2_1, .bool a2_2], .string a3] w fun e w' => e = .returned (.bool r) ∧ Below w.heap.size w w' := by
 have hu24 := Tryd.underlying24
 have hu41 := Tryd.underlying41
 have HB := Aside0.mk (Below.refl w.heap.size w)
 have H : (if (a3.size : Int) > 1048576 then (some true) else ((laws_toPoint.f a0_0 a0_1 a0_2).bind fun bt370 => ((laws_toPoint.f a1_0 a1_1 a1_2).bind fun bt373 => ((laws_toPoint.f a2_0 a2_1 a2_2).bind fun bt376 => ((spec_Agree.f k bt370.1 bt370.2.1 bt370.2.2 bt373.1 bt373.2.1 bt373.2.2 bt376.1 bt376.2.1 bt376.2.2 a3).bind fun bt379 => ((laws_toPoint.f a0_0 a0_1 a0_2).bind fun bt383 => ((laws_toPoint.f a1_0 a1_1 a1_2).bind fun bt386 => ((laws_toPoint.f a2_0 a2_1 a2_2).bind fun bt389 => ((impl_Agree.f k bt383.1 bt383.2.1 bt383.2.2 bt386.1 bt386.2.1 bt386.2.2 bt389.1 bt389.2.1 bt389.2.2 a3).bind fun bt392 => ((laws_eqKeys.f bt392.1 bt392.2.1 bt392.2.2 bt379.1 bt379.2.1 bt379.2.2).bind fun t396 => (if t396 = true then (some true) else (some false)))))))))))) = some r := h
 clear h
 by_cases c5 : (a3.size : Int) > 1048576
 ·rw [if_pos c5] at H
  have c5b0 : decide (1048576 < (a3.size : Int)) = true := decide_eq_true c5
  have c5b1 : decide (1048576 < a3.size) = true := decide_eq_true (by omega)
  clear c5
  obtain rfl := Option.some.inj H
  go_enter Tryd.func5, Tryd.ntmps5
  go_wp2_with (first | ((with_reducible refine gate_dst (N := 4) rfl ?_); refine box_event ?hg (N := 4) ?hd (cs := #[.int .u64 a0_0, .int .u64 a0_1, .bool a0_2]) (t := 24) ?hr ?_; (case hd => rfl); (case hg => rfl); (case hr => go_simp); intro gb367 hg w6 hbox hb; have n0_ := hbB HB hb; have n1_ := Aside0.mk (hbox); have n2_ := geA HB hg; have n3_ := geA HB hg; clear HB; have HB := n0_; have BK367 := n1_; have GW367 := n2_; have GE367 := n3_; clear n0_ n1_ n2_ n3_; clear hb hbox hg) | ((with_reducible refine gate_dst (N := 5) rfl ?_); refine box_event ?hg (N := 5) ?hd (cs := #[.int .u64 a1_0, .int .u64 a1_1, .bool a1_2]) (t := 24) ?hr ?_; (case hd => rfl); (case hg => rfl); (case hr => go_simp); intro gb368 hg w7 hbox hb; have n0_ := bkB BK367 hb; have n1_ := hbB HB hb; have n2_ := Aside0.mk (hbox); have n3_ := geA HB hg; have n4_ := geA HB hg; have n5_ := neA BK367 hg; have n6_ := neB BK367 hg; clear BK367; clear HB; have BK367 := n0_; have HB := n1_; have BK368 := n2_; have GW368 := n3_; have GE368 := n4_; have NB367_368 := n5_; have NB368_367 := n6_; clear n0_ n1_ n2_ n3_ n4_ n5_ n6_; clear hb hbox hg) | ((with_reducible refine gate_dst (N := 6) rfl ?_); refine box_event ?hg (N := 6) ?hd (cs := #[.int .u64 a2_0, .int .u64 a2_1, .bool a2_2]) (t := 24) ?hr ?_; (case hd => rfl); (case hg => rfl); (case hr => go_simp); intro gb369 hg w8 hbox hb; have n0_ := bkB BK367 hb; have n1_ := bkB BK368 hb; have n2_ := hbB HB hb; have n3_ := Aside0.mk (hbox); have n4_ := geA HB hg; have n5_ := geA HB hg; have n6_ := neA BK367 hg; have n7_ := neB BK367 hg; have n8_ := neA BK368 hg; have n9_ := neB BK368 hg; clear BK367; clear BK368; clear HB; have BK367 := n0_; have BK368 := n1_; have HB := n2_; have BK369 := n3_; have GW369 := n4_; have GE369 := n5_; have NB367_369 := n6_; have NB369_367 := n7_; have NB368_369 := n8_; have NB369_368 := n9_; clear n0_ n1_ n2_ n3_ n4_ n5_ n6_ n7_ n8_ n9_; clear hb hbox hg))
  go_ret
  exact ⟨rfl, by repeat (first | (with_reducible first | exact HB.out | apply below_alloc | apply pw_below_drewN | apply below_drew1 | refine below_set ?_ GE367.out | refine below_set ?_ GE368.out | refine below_set ?_ GE369.out) | exact HB.out)⟩
 ·rw [if_neg c5] at H
  have c5b0 : decide (1048576 < (a3.size : Int)) = false := decide_eq_false c5
  have c5b1 : decide (1048576 < a3.size) = false := decide_eq_false (by omega)
  clear c5
  replace H := Option.bind_eq_some_iff.mp H
  obtain ⟨⟨t370, t371, t372⟩, A90, H⟩ := H
  try dsimp only at H
  have A9 := Aside0.mk A90
  clear A90
  replace H := Option.bind_eq_some_iff.mp H
  obtain ⟨⟨t373, t374, t375⟩, A100, H⟩ := H
  try dsimp only at H
  have A10 := Aside0.mk A100
  clear A100
  replace H := Option.bind_eq_some_iff.mp H
  obtain ⟨⟨t376, t377, t378⟩, A110, H⟩ := H
  try dsimp only at H
  have A11 := Aside0.mk A110
  clear A110
  replace H := Option.bind_eq_some_iff.mp H
  obtain ⟨⟨t379, t380, t381⟩, A120, H⟩ := H
  try dsimp only at H
  have A12 := Aside0.mk A120
  clear A120
  replace H := Option.bind_eq_some_iff.mp H
  obtain ⟨⟨t383, t384, t385⟩, A130, H⟩ := H
  try dsimp only at H
  have A13 := Aside0.mk A130
  clear A130
  replace H := Option.bind_eq_some_iff.mp H
  obtain ⟨⟨t386, t387, t388⟩, A140, H⟩ := H
  try dsimp only at H
  have A14 := Aside0.mk A140
  clear A140
  replace H := Option.bind_eq_some_iff.mp H
  obtain ⟨⟨t389, t390, t391⟩, A150, H⟩ := H
  try dsimp only at H
  have A15 := Aside0.mk A150
  clear A150
  replace H := Option.bind_eq_some_iff.mp H
  obtain ⟨⟨t392, t393, t394⟩, A160, H⟩ := H
  try dsimp only at H
  have A16 := Aside0.mk A160
  clear A160
  replace H := Option.bind_eq_some_iff.mp H
  obtain ⟨t396, A170, H⟩ := H
  try dsimp only at H
  have A17 := Aside0.mk A170
  clear A170
  by_cases c18 : t396 = true
  ·subst c18
   have H1 : (some true) = some r := by rw [if_pos rfl] at H; exact H
   clear H
   have H := H1
   clear H1
   obtain rfl := Option.some.inj H
   go_enter Tryd.func5, Tryd.ntmps5
   try go_wp2_with (first | ((with_reducible refine gate_dst (N := 4) rfl ?_); refine box_event ?hg (N := 4) ?hd (cs := #[.int .u64 a0_0, .int .u64 a0_1, .bool a0_2]) (t := 24) ?hr ?_; (case hd => rfl); (case hg => rfl); (case hr => first | (go_simp; done) | (go_simp; rfl)); intro gb367 hg w19 hbox hb; have n0_ := Aside0.mk (below_step (by repeat (first | (with_reducible first | exact HB.out | apply below_alloc | apply pw_below_drewN | apply below_drew1) | exact HB.out)) hb); have n1_ := Aside0.mk (hbox); have n2_ := Aside0.mk ((by rw [hg]; exact (below_size (by repeat (first | (with_reducible first | exact HB.out | apply below_alloc | apply pw_below_drewN | apply below_drew1) | exact HB.out))) : w.heap.size ≤ gb367)); have n3_ := Aside0.mk ((by rw [hg]; exact (below_size (by repeat (first | (with_reducible first | exact HB.out | apply below_alloc | apply pw_below_drewN | apply below_drew1) | exact HB.out))) : w.heap.size ≤ gb367)); clear HB; have HB := n0_; have BK367 := n1_; have GW367 := n2_; have GE367 := n3_; clear n0_ n1_ n2_ n3_; clear hb hbox hg) | ((with_reducible refine gate_dst (N := 5) rfl ?_); refine box_event ?hg (N := 5) ?hd (cs := #[.int .u64 a1_0, .int .u64 a1_1, .bool a1_2]) (t := 24) ?hr ?_; (case hd => rfl); (case hg => rfl); (case hr => first | (go_simp; done) | (go_simp; rfl)); intro gb368 hg w20 hbox hb; have n0_ := Aside0.mk (blk_below (g := gb367) (o := .cells #[.int .u64 a0_0, .int .u64 a0_1, .bool a0_2] 24 (0, 0)) (by (with_reducible repeat (first | refine blk_drewN ?_ _ | refine blk_drew ?_ | refine blk_alloc ?_ _)); exact BK367.out) hb); have n1_ := Aside0.mk (below_step (by repeat (first | (with_reducible first | exact HB.out | apply below_alloc | apply pw_below_drewN | apply below_drew1 | refine below_set ?_ GE367.out) | exact HB.out)) hb); have n2_ := Aside0.mk (hbox); have n3_ := Aside0.mk ((by rw [hg]; exact (below_size (by repeat (first | (with_reducible first | exact HB.out | apply below_alloc | apply pw_below_drewN | apply below_drew1 | refine below_set ?_ GE367.out) | exact HB.out))) : w.heap.size ≤ gb368)); have n4_ := Aside0.mk ((by rw [hg]; exact (below_size (by repeat (first | (with_reducible first | exact HB.out | apply below_alloc | apply pw_below_drewN | apply below_drew1 | refine below_set ?_ GE367.out) | exact HB.out))) : w.heap.size ≤ gb368)); have n5_ := Aside0.mk ((by rw [hg]; exact Nat.ne_of_lt (blk_lt (g := gb367) (o := .cells #[.int .u64 a0_0, .int .u64 a0_1, .bool a0_2] 24 (0, 0)) (by (with_reducible repeat (first | refine blk_drewN ?_ _ | refine blk_drew ?_ | refine blk_alloc ?_ _)); exact BK367.out)) : gb367 ≠ gb368)); have n6_ := Aside0.mk ((by rw [hg]; exact Nat.ne_of_gt (blk_lt (g := gb367) (o := .cells #[.int .u64 a0_0, .int .u64 a0_1, .bool a0_2] 24 (0, 0)) (by (with_reducible repeat (first | refine blk_drewN ?_ _ | refine blk_drew ?_ | refine blk_alloc ?_ _)); exact BK367.out)) : gb368 ≠ gb367)); clear BK367; clear HB; have BK367 := n0_; have HB := n1_; have BK368 := n2_; have GW368 := n3_; have GE368 := n4_; have NB367_368 := n5_; have NB368_367 := n6_; clear n0_ n1_ n2_ n3_ n4_ n5_ n6_; clear hb hbox hg) | ((with_reducible refine gate_dst (N := 6) rfl ?_); refine box_event ?hg (N := 6) ?hd (cs := #[.int .u64 a2_0, .int .u64 a2_1, .bool a2_2]) (t := 24) ?hr ?_; (case hd => rfl); (case hg => rfl); (case hr => first | (go_simp; done) | (go_simp; rfl)); intro gb369 hg w21 hbox hb; have n0_ := Aside0.mk (blk_below (g := gb367) (o := .cells #[.int .u64 a0_0, .int .u64 a0_1, .bool a0_2] 24 (0, 0)) (by (with_reducible repeat (first | refine blk_drewN ?_ _ | refine blk_drew ?_ | refine blk_alloc ?_ _)); exact BK367.out) hb); have n1_ := Aside0.mk (blk_below (g := gb368) (o := .cells #[.int .u64 a1_0, .int .u64 a1_1, .bool a1_2] 24 (0, 0)) (by (with_reducible repeat (first | refine blk_drewN ?_ _ | refine blk_drew ?_ | refine blk_alloc ?_ _)); exact BK368.out) hb); have n2_ := Aside0.mk (below_step (by repeat (first | (with_reducible first | exact HB.out | apply below_alloc | apply pw_below_drewN | apply below_drew1 | refine below_set ?_ GE367.out | refine below_set ?_ GE368.out) | exact HB.out)) hb); have n3_ := Aside0.mk (hbox); have n4_ := Aside0.mk ((by rw [hg]; exact (below_size (by repeat (first | (with_reducible first | exact HB.out | apply below_alloc | apply pw_below_drewN | apply below_drew1 | refine below_set ?_ GE367.out | refine below_set ?_ GE368.out) | exact HB.out))) : w.heap.size ≤ gb369)); have n5_ := Aside0.mk ((by rw [hg]; exact (below_size (by repeat (first | (with_reducible first | exact HB.out | apply below_alloc | apply pw_below_drewN | apply below_drew1 | refine below_set ?_ GE367.out | refine below_set ?_ GE368.out) | exact HB.out))) : w.heap.size ≤ gb369)); have n6_ := Aside0.mk ((by rw [hg]; exact Nat.ne_of_lt (blk_lt (g := gb367) (o := .cells #[.int .u64 a0_0, .int .u64 a0_1, .bool a0_2] 24 (0, 0)) (by (with_reducible repeat (first | refine blk_drewN ?_ _ | refine blk_drew ?_ | refine blk_alloc ?_ _)); exact BK367.out)) : gb367 ≠ gb369)); have n7_ := Aside0.mk ((by rw [hg]; exact Nat.ne_of_gt (blk_lt (g := gb367) (o := .cells #[.int .u64 a0_0, .int .u64 a0_1, .bool a0_2] 24 (0, 0)) (by (with_reducible repeat (first | refine blk_drewN ?_ _ | refine blk_drew ?_ | refine blk_alloc ?_ _)); exact BK367.out)) : gb369 ≠ gb367)); have n8_ := Aside0.mk ((by rw [hg]; exact Nat.ne_of_lt (blk_lt (g := gb368) (o := .cells #[.int .u64 a1_0, .int .u64 a1_1, .bool a1_2] 24 (0, 0)) (by (with_reducible repeat (first | refine blk_drewN ?_ _ | refine blk_drew ?_ | refine blk_alloc ?_ _)); exact BK368.out)) : gb368 ≠ gb369)); have n9_ := Aside0.mk ((by rw [hg]; exact Nat.ne_of_gt (blk_lt (g := gb368) (o := .cells #[.int .u64 a1_0, .int .u64 a1_1, .bool a1_2] 24 (0, 0)) (by (with_reducible repeat (first | refine blk_drewN ?_ _ | refine blk_drew ?_ | refine blk_alloc ?_ _)); exact BK368.out)) : gb369 ≠ gb368)); clear BK367; clear BK368; clear HB; have BK367 := n0_; have BK368 := n1_; have HB := n2_; have BK369 := n3_; have GW369 := n4_; have GE369 := n5_; have NB367_369 := n6_; have NB369_367 := n7_; have NB368_369 := n8_; have NB369_368 := n9_; clear n0_ n1_ n2_ n3_ n4_ n5_ n6_ n7_ n8_ n9_; clear hb hbox hg))
   have n0_ := Aside0.mk (blk_drew BK367.out)
   have n1_ := Aside0.mk (blk_drew BK368.out)
   have n2_ := Aside0.mk (blk_drew BK369.out)
   have n3_ := Aside0.mk (below_drew1 HB.out)
   clear BK367
   clear BK368
   clear BK369
   clear HB
   have BK367 := n0_
   have BK368 := n1_
   have BK369 := n2_
   have HB := n3_
   clear n0_ n1_ n2_ n3_
   refine start_ (n := 10) (S := fun w' => u5_S0 a0_0 a0_1 a0_2 a1_0 a1_1 a1_2 a2_0 a2_1 a2_2 gb367 gb368 gb369 w') (ds := []) #[false, false, false, false, false, false, false, false, false, false] (by kernel_rfl) rfl rfl ⟨bc BK367 0, bc BK367 1, bc BK367 2, bc BK368 0, bc BK368 1, bc BK368 2, bc BK369 0, bc BK369 1, bc BK369 2⟩ (fun hHeld => ?_); refine with_tabW laws_FnExactAgree.tab3 laws_FnExactAgree.bits3 (fun HT_ HW_ => ?_)
   generalize w21.drew = w22 at BK367 BK368 BK369 HB hHeld ⊢
   refine pure_ (i := 6) (N := some 20) (v := ?_) (a' := ?_) #[false, false, false, false, false, false, true, false, false, false] rfl rfl (any_of HT_.out (by kernel_rfl)) (fun _ _ _ h => h) (Or.inl ⟨by rfl, ?_⟩) ?_ ?_
   rotate_left
   ·intro w'
    go_simp
    with_reducible rfl
   rotate_left
   ·simp only [Act.put, List.setIfInBounds_toArray, List.set_cons_zero, List.set_cons_succ, i64_w, i32_w]
    rfl
   refine take_ (i := 0) (N := some 14) (v := ?_) (a' := ?_) #[true, false, false, false, false, false, true, false, false, false] rfl rfl (take_ofW HT_.out HW_.out (by kernel_rfl)) (fun _ _ _ h => h) (Or.inl ⟨by rfl, ?_⟩) hHeld ?_ ?_
   rotate_left
   ·rintro w' ⟨s0, s1, s2, s3, s4, s5, s6, s7, s8⟩
    go_simp
    with_reducible rfl
   rotate_left
   ·simp only [Act.put, List.setIfInBounds_toArray, List.set_cons_zero, List.set_cons_succ, i64_w, i32_w]
    rfl
   refine take_ (i := 2) (N := some 16) (v := ?_) (a' := ?_) #[true, false, true, false, false, false, true, false, false, false] rfl rfl (take_ofW HT_.out HW_.out (by kernel_rfl)) (fun _ _ _ h => h) (Or.inl ⟨by rfl, ?_⟩) hHeld ?_ ?_
   rotate_left
   ·rintro w' ⟨s0, s1, s2, s3, s4, s5, s6, s7, s8⟩
    go_simp
    with_reducible rfl
   rotate_left
   ·simp only [Act.put, List.setIfInBounds_toArray, List.set_cons_zero, List.set_cons_succ, i64_w, i32_w]
    rfl
   refine take_ (i := 4) (N := some 18) (v := ?_) (a' := ?_) #[true, false, true, false, true, false, true, false, false, false] rfl rfl (take_ofW HT_.out HW_.out (by kernel_rfl)) (fun _ _ _ h => h) (Or.inl ⟨by rfl, ?_⟩) hHeld ?_ ?_
   rotate_left
   ·rintro w' ⟨s0, s1, s2, s3, s4, s5, s6, s7, s8⟩
    go_simp
    with_reducible rfl
   rotate_left
   ·simp only [Act.put, List.setIfInBounds_toArray, List.set_cons_zero, List.set_cons_succ, i64_w, i32_w]
    rfl
   refine join_ (σ := Nat) 1 #[true, true, true, true, true, true, true, true, true, false] (fun s_ => [(15, .agg #[.int .u64 t370, .int .u64 t371, .bool t372]), (17, .agg #[.int .u64 t373, .int .u64 t374, .bool t375]), (19, .agg #[.int .u64 t376, .int .u64 t377, .bool t378]), (21, .agg #[.string t379, .string t380, .string t381]), (9, .pointer (some ⟨s_, 0, none⟩))]) (fun s_ w' => (u5_S0 a0_0 a0_1 a0_2 a1_0 a1_1 a1_2 a2_0 a2_1 a2_2 gb367 gb368 gb369 w') ∧ (w'.heap[gb367]? = some (.cells #[.int .u64 a0_0, .int .u64 a0_1, .bool a0_2] 24 (0, 0))) ∧ (w'.heap[gb368]? = some (.cells #[.int .u64 a1_0, .int .u64 a1_1, .bool a1_2] 24 (0, 0))) ∧ (w'.heap[gb369]? = some (.cells #[.int .u64 a2_0, .int .u64 a2_1, .bool a2_2] 24 (0, 0))) ∧ (w'.heap[s_]? = some (.cells #[.string (⟨#[]⟩ : ByteArray), .string (⟨#[]⟩ : ByteArray), .string (⟨#[]⟩ : ByteArray)] 41 (0, 0))) ∧ (w.heap.size ≤ s_) ∧ (w.heap.size ≤ s_) ∧ (gb367 ≠ s_) ∧ (s_ ≠ gb367) ∧ (gb368 ≠ s_) ∧ (s_ ≠ gb368) ∧ (gb369 ≠ s_) ∧ (s_ ≠ gb369) ∧ (Below w.heap.size w w')) ?_ ?_
   rotate_left
   ·intro hJ1_3_5_7_8
    refine join_ (σ := Unit) 2 #[true, true, true, true, true, true, true, true, false, false] (fun s_ => [(15, .agg #[.int .u64 t370, .int .u64 t371, .bool t372]), (17, .agg #[.int .u64 t373, .int .u64 t374, .bool t375]), (19, .agg #[.int .u64 t376, .int .u64 t377, .bool t378]), (21, .agg #[.string t379, .string t380, .string t381])]) (fun s_ w' => (u5_S0 a0_0 a0_1 a0_2 a1_0 a1_1 a1_2 a2_0 a2_1 a2_2 gb367 gb368 gb369 w') ∧ (w'.heap[gb367]? = some (.cells #[.int .u64 a0_0, .int .u64 a0_1, .bool a0_2] 24 (0, 0))) ∧ (w'.heap[gb368]? = some (.cells #[.int .u64 a1_0, .int .u64 a1_1, .bool a1_2] 24 (0, 0))) ∧ (w'.heap[gb369]? = some (.cells #[.int .u64 a2_0, .int .u64 a2_1, .bool a2_2] 24 (0, 0))) ∧ (Below w.heap.size w w')) ?_ ?_
    rotate_left
    ·intro hJ1_3_5_7
     refine join_ (σ := Nat) 2 #[true, true, true, true, true, true, true, false, true, false] (fun s_ => [(15, .agg #[.int .u64 t370, .int .u64 t371, .bool t372]), (17, .agg #[.int .u64 t373, .int .u64 t374, .bool t375]), (19, .agg #[.int .u64 t376, .int .u64 t377, .bool t378]), (9, .pointer (some ⟨s_, 0, none⟩))]) (fun s_ w' => (u5_S0 a0_0 a0_1 a0_2 a1_0 a1_1 a1_2 a2_0 a2_1 a2_2 gb367 gb368 gb369 w') ∧ (w'.heap[gb367]? = some (.cells #[.int .u64 a0_0, .int .u64 a0_1, .bool a0_2] 24 (0, 0))) ∧ (w'.heap[gb368]? = some (.cells #[.int .u64 a1_0, .int .u64 a1_1, .bool a1_2] 24 (0, 0))) ∧ (w'.heap[gb369]? = some (.cells #[.int .u64 a2_0, .int .u64 a2_1, .bool a2_2] 24 (0, 0))) ∧ (w'.heap[s_]? = some (.cells #[.string (⟨#[]⟩ : ByteArray), .string (⟨#[]⟩ : ByteArray), .string (⟨#[]⟩ : ByteArray)] 41 (0, 0))) ∧ (w.heap.size ≤ s_) ∧ (w.heap.size ≤ s_) ∧ (gb367 ≠ s_) ∧ (s_ ≠ gb367) ∧ (gb368 ≠ s_) ∧ (s_ ≠ gb368) ∧ (gb369 ≠ s_) ∧ (s_ ≠ gb369) ∧ (Below w.heap.size w w')) ?_ ?_
     rotate_left
     ·intro hJ1_3_5_8
      refine join_ (σ := Unit) 3 #[true, true, true, true, true, true, true, false, false, false] (fun s_ => [(15, .agg #[.int .u64 t370, .int .u64 t371, .bool t372]), (17, .agg #[.int .u64 t373, .int .u64 t374, .bool t375]), (19, .agg #[.int .u64 t376, .int .u64 t377, .bool t378])]) (fun s_ w' => (u5_S0 a0_0 a0_1 a0_2 a1_0 a1_1 a1_2 a2_0 a2_1 a2_2 gb367 gb368 gb369 w') ∧ (w'.heap[gb367]? = some (.cells #[.int .u64 a0_0, .int .u64 a0_1, .bool a0_2] 24 (0, 0))) ∧ (w'.heap[gb368]? = some (.cells #[.int .u64 a1_0, .int .u64 a1_1, .bool a1_2] 24 (0, 0))) ∧ (w'.heap[gb369]? = some (.cells #[.int .u64 a2_0, .int .u64 a2_1, .bool a2_2] 24 (0, 0))) ∧ (Below w.heap.size w w')) ?_ ?_
      rotate_left
      ·intro hJ1_3_5
       refine join_ (σ := Nat) 3 #[true, true, true, true, true, false, true, false, true, false] (fun s_ => [(15, .agg #[.int .u64 t370, .int .u64 t371, .bool t372]), (17, .agg #[.int .u64 t373, .int .u64 t374, .bool t375]), (9, .pointer (some ⟨s_, 0, none⟩))]) (fun s_ w' => (u5_S0 a0_0 a0_1 a0_2 a1_0 a1_1 a1_2 a2_0 a2_1 a2_2 gb367 gb368 gb369 w') ∧ (w'.heap[gb367]? = some (.cells #[.int .u64 a0_0, .int .u64 a0_1, .bool a0_2] 24 (0, 0))) ∧ (w'.heap[gb368]? = some (.cells #[.int .u64 a1_0, .int .u64 a1_1, .bool a1_2] 24 (0, 0))) ∧ (w'.heap[gb369]? = some (.cells #[.int .u64 a2_0, .int .u64 a2_1, .bool a2_2] 24 (0, 0))) ∧ (w'.heap[s_]? = some (.cells #[.string (⟨#[]⟩ : ByteArray), .string (⟨#[]⟩ : ByteArray), .string (⟨#[]⟩ : ByteArray)] 41 (0, 0))) ∧ (w.heap.size ≤ s_) ∧ (w.heap.size ≤ s_) ∧ (gb367 ≠ s_) ∧ (s_ ≠ gb367) ∧ (gb368 ≠ s_) ∧ (s_ ≠ gb368) ∧ (gb369 ≠ s_) ∧ (s_ ≠ gb369) ∧ (Below w.heap.size w w')) ?_ ?_
       rotate_left
       ·intro hJ1_3_8
        refine join_ (σ := Unit) 4 #[true, true, true, true, true, false, true, false, false, false] (fun s_ => [(15, .agg #[.int .u64 t370, .int .u64 t371, .bool t372]), (17, .agg #[.int .u64 t373, .int .u64 t374, .bool t375])]) (fun s_ w' => (u5_S0 a0_0 a0_1 a0_2 a1_0 a1_1 a1_2 a2_0 a2_1 a2_2 gb367 gb368 gb369 w') ∧ (w'.heap[gb367]? = some (.cells #[.int .u64 a0_0, .int .u64 a0_1, .bool a0_2] 24 (0, 0))) ∧ (w'.heap[gb368]? = some (.cells #[.int .u64 a1_0, .int .u64 a1_1, .bool a1_2] 24 (0, 0))) ∧ (w'.heap[gb369]? = some (.cells #[.int .u64 a2_0, .int .u64 a2_1, .bool a2_2] 24 (0, 0))) ∧ (Below w.heap.size w w')) ?_ ?_
        rotate_left
        ·intro hJ1_3
         refine join_ (σ := Nat) 4 #[true, true, true, false, true, false, true, false, true, false] (fun s_ => [(15, .agg #[.int .u64 t370, .int .u64 t371, .bool t372]), (9, .pointer (some ⟨s_, 0, none⟩))]) (fun s_ w' => (u5_S0 a0_0 a0_1 a0_2 a1_0 a1_1 a1_2 a2_0 a2_1 a2_2 gb367 gb368 gb369 w') ∧ (w'.heap[gb367]? = some (.cells #[.int .u64 a0_0, .int .u64 a0_1, .bool a0_2] 24 (0, 0))) ∧ (w'.heap[gb368]? = some (.cells #[.int .u64 a1_0, .int .u64 a1_1, .bool a1_2] 24 (0, 0))) ∧ (w'.heap[gb369]? = some (.cells #[.int .u64 a2_0, .int .u64 a2_1, .bool a2_2] 24 (0, 0))) ∧ (w'.heap[s_]? = some (.cells #[.string (⟨#[]⟩ : ByteArray), .string (⟨#[]⟩ : ByteArray), .string (⟨#[]⟩ : ByteArray)] 41 (0, 0))) ∧ (w.heap.size ≤ s_) ∧ (w.heap.size ≤ s_) ∧ (gb367 ≠ s_) ∧ (s_ ≠ gb367) ∧ (gb368 ≠ s_) ∧ (s_ ≠ gb368) ∧ (gb369 ≠ s_) ∧ (s_ ≠ gb369) ∧ (Below w.heap.size w w')) ?_ ?_
         rotate_left
         ·intro hJ1_8
          refine join_ (σ := Unit) 5 #[true, true, true, false, true, false, true, false, false, false] (fun s_ => [(15, .agg #[.int .u64 t370, .int .u64 t371, .bool t372])]) (fun s_ w' => (u5_S0 a0_0 a0_1 a0_2 a1_0 a1_1 a1_2 a2_0 a2_1 a2_2 gb367 gb368 gb369 w') ∧ (w'.heap[gb367]? = some (.cells #[.int .u64 a0_0, .int .u64 a0_1, .bool a0_2] 24 (0, 0))) ∧ (w'.heap[gb368]? = some (.cells #[.int .u64 a1_0, .int .u64 a1_1, .bool a1_2] 24 (0, 0))) ∧ (w'.heap[gb369]? = some (.cells #[.int .u64 a2_0, .int .u64 a2_1, .bool a2_2] 24 (0, 0))) ∧ (Below w.heap.size w w')) ?_ ?_
          rotate_left
          ·intro hJ1
           refine join_ (σ := Nat) 5 #[true, false, true, false, true, false, true, false, true, false] (fun s_ => [(9, .pointer (some ⟨s_, 0, none⟩))]) (fun s_ w' => (u5_S0 a0_0 a0_1 a0_2 a1_0 a1_1 a1_2 a2_0 a2_1 a2_2 gb367 gb368 gb369 w') ∧ (w'.heap[gb367]? = some (.cells #[.int .u64 a0_0, .int .u64 a0_1, .bool a0_2] 24 (0, 0))) ∧ (w'.heap[gb368]? = some (.cells #[.int .u64 a1_0, .int .u64 a1_1, .bool a1_2] 24 (0, 0))) ∧ (w'.heap[gb369]? = some (.cells #[.int .u64 a2_0, .int .u64 a2_1, .bool a2_2] 24 (0, 0))) ∧ (w'.heap[s_]? = some (.cells #[.string (⟨#[]⟩ : ByteArray), .string (⟨#[]⟩ : ByteArray), .string (⟨#[]⟩ : ByteArray)] 41 (0, 0))) ∧ (w.heap.size ≤ s_) ∧ (w.heap.size ≤ s_) ∧ (gb367 ≠ s_) ∧ (s_ ≠ gb367) ∧ (gb368 ≠ s_) ∧ (s_ ≠ gb368) ∧ (gb369 ≠ s_) ∧ (s_ ≠ gb369) ∧ (Below w.heap.size w w')) ?_ ?_
           rotate_left
           ·intro hJ8
            refine two_ (i := 1) (j := 8) (Ni := some 15) (Nj := some 9) #[true, true, true, false, true, false, true, false, false, false] #[true, false, true, false, true, false, true, false, true, false] rfl rfl rfl rfl (two_of HT_.out (by kernel_rfl)) (by decide) (by decide) (fun K hK => ?_) (fun K hK => ?_)
            ·skip
             refine goes_ Tryd.func16 (by kernel_rfl) rfl #[.agg #[.int .u64 a0_0, .int .u64 a0_1, .bool a0_2]] (by rfl) rfl rfl (by (try simp only [List.map_toArray, List.map_cons, List.map_nil]); first | done | rfl | (simp only [List.length_drop, List.length_take]; rfl)) ?_
             with_reducible refine (laws_toPoint.calls a0_0 a0_1 a0_2 t370 t371 t372 _ A9.out).mono ?_
             rintro e w23 ⟨rfl, hb⟩
             refine ⟨_, rfl, ?_⟩
             have n0_ := bkB BK367 hb
             have n1_ := bkB BK368 hb
             have n2_ := bkB BK369 hb
             have n3_ := hbB HB hb
             clear BK367
             clear BK368
             clear BK369
             clear HB
             have BK367 := n0_
             have BK368 := n1_
             have BK369 := n2_
             have HB := n3_
             clear n0_ n1_ n2_ n3_
             (try clear hb)
             skip
             skip
             skip
             refine hK.out _ _ ⟨bc BK367 0, bc BK367 1, bc BK367 2, bc BK368 0, bc BK368 1, bc BK368 2, bc BK369 0, bc BK369 1, bc BK369 2⟩ (fun hHeld => ?_)
             clear hK K
             refine norm_ (a' := ?_) ?_ ?_
             rotate_left
             ·show Act.put _ (some 15) _ = _
              simp only [Act.put, List.setIfInBounds_toArray, List.set_cons_zero, List.set_cons_succ, i64_w, i32_w]
              rfl
             exact norm_ (by simp only [putAll, Act.put, List.setIfInBounds_toArray, List.set_cons_zero, List.set_cons_succ] <;> rfl) (hJ1 () _ ⟨hHeld, BK367.out, BK368.out, BK369.out, HB.out⟩)
            ·skip
             refine box_step ?hg (N := 9) ?hd (cs := #[.string (⟨#[]⟩ : ByteArray), .string (⟨#[]⟩ : ByteArray), .string (⟨#[]⟩ : ByteArray)]) (t := 41) ?hr ?_; (case hd => rfl); (case hg => rfl); (case hr => go_simp)
             intro gb382 hg w23 hbox hb
             have n0_ := bkB BK367 hb
             have n1_ := bkB BK368 hb
             have n2_ := bkB BK369 hb
             have n3_ := hbB HB hb
             have n4_ := Aside0.mk (hbox)
             have n5_ := geA HB hg
             have n6_ := geA HB hg
             have n7_ := neA BK367 hg
             have n8_ := neB BK367 hg
             have n9_ := neA BK368 hg
             have n10_ := neB BK368 hg
             have n11_ := neA BK369 hg
             have n12_ := neB BK369 hg
             clear BK367
             clear BK368
             clear BK369
             clear HB
             have BK367 := n0_
             have BK368 := n1_
             have BK369 := n2_
             have HB := n3_
             have BK382 := n4_
             have GW382 := n5_
             have GE382 := n6_
             have NB367_382 := n7_
             have NB382_367 := n8_
             have NB368_382 := n9_
             have NB382_368 := n10_
             have NB369_382 := n11_
             have NB382_369 := n12_
             clear n0_ n1_ n2_ n3_ n4_ n5_ n6_ n7_ n8_ n9_ n10_ n11_ n12_
             clear hb hbox hg
             refine hK.out _ _ ⟨bc BK367 0, bc BK367 1, bc BK367 2, bc BK368 0, bc BK368 1, bc BK368 2, bc BK369 0, bc BK369 1, bc BK369 2⟩ (fun hHeld => ?_)
             clear hK K
             refine norm_ (a' := ?_) ?_ ?_
             rotate_left
             ·show Act.put _ (some 9) _ = _
              simp only [Act.put, List.setIfInBounds_toArray, List.set_cons_zero, List.set_cons_succ, i64_w, i32_w]
              rfl
             exact norm_ (by simp only [putAll, Act.put, List.setIfInBounds_toArray, List.set_cons_zero, List.set_cons_succ] <;> rfl) (hJ8 (gb382) _ ⟨hHeld, BK367.out, BK368.out, BK369.out, BK382.out, GW382.out, GE382.out, NB367_382.out, NB382_367.out, NB368_382.out, NB382_368.out, NB369_382.out, NB382_369.out, HB.out⟩)
           ·skip
            rintro gb382 w24 ⟨hS_, h0_, h1_, h2_, h3_, h4_, h5_, h6_, h7_, h8_, h9_, h10_, h11_, h12_⟩
            have n0_ := Aside0.mk h0_
            have n1_ := Aside0.mk h1_
            have n2_ := Aside0.mk h2_
            have n3_ := Aside0.mk h3_
            have n4_ := Aside0.mk h4_
            have n5_ := Aside0.mk h5_
            have n6_ := Aside0.mk h6_
            have n7_ := Aside0.mk h7_
            have n8_ := Aside0.mk h8_
            have n9_ := Aside0.mk h9_
            have n10_ := Aside0.mk h10_
            have n11_ := Aside0.mk h11_
            have n12_ := Aside0.mk h12_
            clear BK367
            clear BK368
            clear BK369
            clear HB
            clear h0_ h1_ h2_ h3_ h4_ h5_ h6_ h7_ h8_ h9_ h10_ h11_ h12_
            have BK367 := n0_
            have BK368 := n1_
            have BK369 := n2_
            have BK382 := n3_
            have GW382 := n4_
            have GE382 := n5_
            have NB367_382 := n6_
            have NB382_367 := n7_
            have NB368_382 := n8_
            have NB382_368 := n9_
            have NB369_382 := n10_
            have NB382_369 := n11_
            have HB := n12_
            clear n0_ n1_ n2_ n3_ n4_ n5_ n6_ n7_ n8_ n9_ n10_ n11_ n12_
            have hHeld : u5_S0 a0_0 a0_1 a0_2 a1_0 a1_1 a1_2 a2_0 a2_1 a2_2 gb367 gb368 gb369 w24 := hS_
            refine norm_ (a' := ?_) ?_ ?_
            rotate_left
            ·simp only [putAll, Act.put, List.setIfInBounds_toArray, List.set_cons_zero, List.set_cons_succ]
             rfl
            refine one_ (i := 1) (N := some 15) #[true, true, true, false, true, false, true, false, true, false] rfl rfl (one_of HT_.out (by kernel_rfl)) (by decide) (fun K hK => ?_)
            refine goes_ Tryd.func16 (by kernel_rfl) rfl #[.agg #[.int .u64 a0_0, .int .u64 a0_1, .bool a0_2]] (by rfl) rfl rfl (by (try simp only [List.map_toArray, List.map_cons, List.map_nil]); first | done | rfl | (simp only [List.length_drop, List.length_take]; rfl)) ?_
            with_reducible refine (laws_toPoint.calls a0_0 a0_1 a0_2 t370 t371 t372 _ A9.out).mono ?_
            rintro e w25 ⟨rfl, hb⟩
            refine ⟨_, rfl, ?_⟩
            have n0_ := bkB BK367 hb
            have n1_ := bkB BK368 hb
            have n2_ := bkB BK369 hb
            have n3_ := bkB BK382 hb
            have n4_ := hbB HB hb
            clear BK367
            clear BK368
            clear BK369
            clear BK382
            clear HB
            have BK367 := n0_
            have BK368 := n1_
            have BK369 := n2_
            have BK382 := n3_
            have HB := n4_
            clear n0_ n1_ n2_ n3_ n4_
            (try clear hb)
            skip
            skip
            skip
            refine hK.out _ _ ⟨bc BK367 0, bc BK367 1, bc BK367 2, bc BK368 0, bc BK368 1, bc BK368 2, bc BK369 0, bc BK369 1, bc BK369 2⟩ (fun hHeld => ?_)
            clear hK K
            refine norm_ (a' := ?_) ?_ ?_
            rotate_left
            ·show Act.put _ (some 15) _ = _
             simp only [Act.put, List.setIfInBounds_toArray, List.set_cons_zero, List.set_cons_succ, i64_w, i32_w]
             rfl
            exact norm_ (by simp only [putAll, Act.put, List.setIfInBounds_toArray, List.set_cons_zero, List.set_cons_succ] <;> rfl) (hJ1_8 (gb382) _ ⟨hHeld, BK367.out, BK368.out, BK369.out, BK382.out, GW382.out, GE382.out, NB367_382.out, NB382_367.out, NB368_382.out, NB382_368.out, NB369_382.out, NB382_369.out, HB.out⟩)
          ·skip
           rintro _ w24 ⟨hS_, h0_, h1_, h2_, h3_⟩
           have n0_ := Aside0.mk h0_
           have n1_ := Aside0.mk h1_
           have n2_ := Aside0.mk h2_
           have n3_ := Aside0.mk h3_
           clear BK367
           clear BK368
           clear BK369
           clear HB
           clear h0_ h1_ h2_ h3_
           have BK367 := n0_
           have BK368 := n1_
           have BK369 := n2_
           have HB := n3_
           clear n0_ n1_ n2_ n3_
           have hHeld : u5_S0 a0_0 a0_1 a0_2 a1_0 a1_1 a1_2 a2_0 a2_1 a2_2 gb367 gb368 gb369 w24 := hS_
           refine norm_ (a' := ?_) ?_ ?_
           rotate_left
           ·simp only [putAll, Act.put, List.setIfInBounds_toArray, List.set_cons_zero, List.set_cons_succ]
            rfl
           refine two_ (i := 3) (j := 8) (Ni := some 17) (Nj := some 9) #[true, true, true, true, true, false, true, false, false, false] #[true, true, true, false, true, false, true, false, true, false] rfl rfl rfl rfl (two_of HT_.out (by kernel_rfl)) (by decide) (by decide) (fun K hK => ?_) (fun K hK => ?_)
           ·skip
            refine goes_ Tryd.func16 (by kernel_rfl) rfl #[.agg #[.int .u64 a1_0, .int .u64 a1_1, .bool a1_2]] (by rfl) rfl rfl (by (try simp only [List.map_toArray, List.map_cons, List.map_nil]); first | done | rfl | (simp only [List.length_drop, List.length_take]; rfl)) ?_
            with_reducible refine (laws_toPoint.calls a1_0 a1_1 a1_2 t373 t374 t375 _ A10.out).mono ?_
            rintro e w25 ⟨rfl, hb⟩
            refine ⟨_, rfl, ?_⟩
            have n0_ := bkB BK367 hb
            have n1_ := bkB BK368 hb
            have n2_ := bkB BK369 hb
            have n3_ := hbB HB hb
            clear BK367
            clear BK368
            clear BK369
            clear HB
            have BK367 := n0_
            have BK368 := n1_
            have BK369 := n2_
            have HB := n3_
            clear n0_ n1_ n2_ n3_
            (try clear hb)
            skip
            skip
            skip
            refine hK.out _ _ ⟨bc BK367 0, bc BK367 1, bc BK367 2, bc BK368 0, bc BK368 1, bc BK368 2, bc BK369 0, bc BK369 1, bc BK369 2⟩ (fun hHeld => ?_)
            clear hK K
            refine norm_ (a' := ?_) ?_ ?_
            rotate_left
            ·show Act.put _ (some 17) _ = _
             simp only [Act.put, List.setIfInBounds_toArray, List.set_cons_zero, List.set_cons_succ, i64_w, i32_w]
             rfl
            exact norm_ (by simp only [putAll, Act.put, List.setIfInBounds_toArray, List.set_cons_zero, List.set_cons_succ] <;> rfl) (hJ1_3 () _ ⟨hHeld, BK367.out, BK368.out, BK369.out, HB.out⟩)
           ·skip
            refine box_step ?hg (N := 9) ?hd (cs := #[.string (⟨#[]⟩ : ByteArray), .string (⟨#[]⟩ : ByteArray), .string (⟨#[]⟩ : ByteArray)]) (t := 41) ?hr ?_; (case hd => rfl); (case hg => rfl); (case hr => go_simp)
            intro gb382 hg w25 hbox hb
            have n0_ := bkB BK367 hb
            have n1_ := bkB BK368 hb
            have n2_ := bkB BK369 hb
            have n3_ := hbB HB hb
            have n4_ := Aside0.mk (hbox)
            have n5_ := geA HB hg
            have n6_ := geA HB hg
            have n7_ := neA BK367 hg
            have n8_ := neB BK367 hg
            have n9_ := neA BK368 hg
            have n10_ := neB BK368 hg
            have n11_ := neA BK369 hg
            have n12_ := neB BK369 hg
            clear BK367
            clear BK368
            clear BK369
            clear HB
            have BK367 := n0_
            have BK368 := n1_
            have BK369 := n2_
            have HB := n3_
            have BK382 := n4_
            have GW382 := n5_
            have GE382 := n6_
            have NB367_382 := n7_
            have NB382_367 := n8_
            have NB368_382 := n9_
            have NB382_368 := n10_
            have NB369_382 := n11_
            have NB382_369 := n12_
            clear n0_ n1_ n2_ n3_ n4_ n5_ n6_ n7_ n8_ n9_ n10_ n11_ n12_
            clear hb hbox hg
            refine hK.out _ _ ⟨bc BK367 0, bc BK367 1, bc BK367 2, bc BK368 0, bc BK368 1, bc BK368 2, bc BK369 0, bc BK369 1, bc BK369 2⟩ (fun hHeld => ?_)
            clear hK K
            refine norm_ (a' := ?_) ?_ ?_
            rotate_left
            ·show Act.put _ (some 9) _ = _
             simp only [Act.put, List.setIfInBounds_toArray, List.set_cons_zero, List.set_cons_succ, i64_w, i32_w]
             rfl
            exact norm_ (by simp only [putAll, Act.put, List.setIfInBounds_toArray, List.set_cons_zero, List.set_cons_succ] <;> rfl) (hJ1_8 (gb382) _ ⟨hHeld, BK367.out, BK368.out, BK369.out, BK382.out, GW382.out, GE382.out, NB367_382.out, NB382_367.out, NB368_382.out, NB382_368.out, NB369_382.out, NB382_369.out, HB.out⟩)
         ·skip
          rintro gb382 w25 ⟨hS_, h0_, h1_, h2_, h3_, h4_, h5_, h6_, h7_, h8_, h9_, h10_, h11_, h12_⟩
          have n0_ := Aside0.mk h0_
          have n1_ := Aside0.mk h1_
          have n2_ := Aside0.mk h2_
          have n3_ := Aside0.mk h3_
          have n4_ := Aside0.mk h4_
          have n5_ := Aside0.mk h5_
          have n6_ := Aside0.mk h6_
          have n7_ := Aside0.mk h7_
          have n8_ := Aside0.mk h8_
          have n9_ := Aside0.mk h9_
          have n10_ := Aside0.mk h10_
          have n11_ := Aside0.mk h11_
          have n12_ := Aside0.mk h12_
          clear BK367
          clear BK368
          clear BK369
          clear HB
          clear h0_ h1_ h2_ h3_ h4_ h5_ h6_ h7_ h8_ h9_ h10_ h11_ h12_
          have BK367 := n0_
          have BK368 := n1_
          have BK369 := n2_
          have BK382 := n3_
          have GW382 := n4_
          have GE382 := n5_
          have NB367_382 := n6_
          have NB382_367 := n7_
          have NB368_382 := n8_
          have NB382_368 := n9_
          have NB369_382 := n10_
          have NB382_369 := n11_
          have HB := n12_
          clear n0_ n1_ n2_ n3_ n4_ n5_ n6_ n7_ n8_ n9_ n10_ n11_ n12_
          have hHeld : u5_S0 a0_0 a0_1 a0_2 a1_0 a1_1 a1_2 a2_0 a2_1 a2_2 gb367 gb368 gb369 w25 := hS_
          refine norm_ (a' := ?_) ?_ ?_
          rotate_left
          ·simp only [putAll, Act.put, List.setIfInBounds_toArray, List.set_cons_zero, List.set_cons_succ]
           rfl
          refine one_ (i := 3) (N := some 17) #[true, true, true, true, true, false, true, false, true, false] rfl rfl (one_of HT_.out (by kernel_rfl)) (by decide) (fun K hK => ?_)
          refine goes_ Tryd.func16 (by kernel_rfl) rfl #[.agg #[.int .u64 a1_0, .int .u64 a1_1, .bool a1_2]] (by rfl) rfl rfl (by (try simp only [List.map_toArray, List.map_cons, List.map_nil]); first | done | rfl | (simp only [List.length_drop, List.length_take]; rfl)) ?_
          with_reducible refine (laws_toPoint.calls a1_0 a1_1 a1_2 t373 t374 t375 _ A10.out).mono ?_
          rintro e w26 ⟨rfl, hb⟩
          refine ⟨_, rfl, ?_⟩
          have n0_ := bkB BK367 hb
          have n1_ := bkB BK368 hb
          have n2_ := bkB BK369 hb
          have n3_ := bkB BK382 hb
          have n4_ := hbB HB hb
          clear BK367
          clear BK368
          clear BK369
          clear BK382
          clear HB
          have BK367 := n0_
          have BK368 := n1_
          have BK369 := n2_
          have BK382 := n3_
          have HB := n4_
          clear n0_ n1_ n2_ n3_ n4_
          (try clear hb)
          skip
          skip
          skip
          refine hK.out _ _ ⟨bc BK367 0, bc BK367 1, bc BK367 2, bc BK368 0, bc BK368 1, bc BK368 2, bc BK369 0, bc BK369 1, bc BK369 2⟩ (fun hHeld => ?_)
          clear hK K
          refine norm_ (a' := ?_) ?_ ?_
          rotate_left
          ·show Act.put _ (some 17) _ = _
           simp only [Act.put, List.setIfInBounds_toArray, List.set_cons_zero, List.set_cons_succ, i64_w, i32_w]
           rfl
          exact norm_ (by simp only [putAll, Act.put, List.setIfInBounds_toArray, List.set_cons_zero, List.set_cons_succ] <;> rfl) (hJ1_3_8 (gb382) _ ⟨hHeld, BK367.out, BK368.out, BK369.out, BK382.out, GW382.out, GE382.out, NB367_382.out, NB382_367.out, NB368_382.out, NB382_368.out, NB369_382.out, NB382_369.out, HB.out⟩)
        ·skip
         rintro _ w25 ⟨hS_, h0_, h1_, h2_, h3_⟩
         have n0_ := Aside0.mk h0_
         have n1_ := Aside0.mk h1_
         have n2_ := Aside0.mk h2_
         have n3_ := Aside0.mk h3_
         clear BK367
         clear BK368
         clear BK369
         clear HB
         clear h0_ h1_ h2_ h3_
         have BK367 := n0_
         have BK368 := n1_
         have BK369 := n2_
         have HB := n3_
         clear n0_ n1_ n2_ n3_
         have hHeld : u5_S0 a0_0 a0_1 a0_2 a1_0 a1_1 a1_2 a2_0 a2_1 a2_2 gb367 gb368 gb369 w25 := hS_
         refine norm_ (a' := ?_) ?_ ?_
         rotate_left
         ·simp only [putAll, Act.put, List.setIfInBounds_toArray, List.set_cons_zero, List.set_cons_succ]
          rfl
         refine two_ (i := 5) (j := 8) (Ni := some 19) (Nj := some 9) #[true, true, true, true, true, true, true, false, false, false] #[true, true, true, true, true, false, true, false, true, false] rfl rfl rfl rfl (two_of HT_.out (by kernel_rfl)) (by decide) (by decide) (fun K hK => ?_) (fun K hK => ?_)
         ·skip
          refine goes_ Tryd.func16 (by kernel_rfl) rfl #[.agg #[.int .u64 a2_0, .int .u64 a2_1, .bool a2_2]] (by rfl) rfl rfl (by (try simp only [List.map_toArray, List.map_cons, List.map_nil]); first | done | rfl | (simp only [List.length_drop, List.length_take]; rfl)) ?_
          with_reducible refine (laws_toPoint.calls a2_0 a2_1 a2_2 t376 t377 t378 _ A11.out).mono ?_
          rintro e w26 ⟨rfl, hb⟩
          refine ⟨_, rfl, ?_⟩
          have n0_ := bkB BK367 hb
          have n1_ := bkB BK368 hb
          have n2_ := bkB BK369 hb
          have n3_ := hbB HB hb
          clear BK367
          clear BK368
          clear BK369
          clear HB
          have BK367 := n0_
          have BK368 := n1_
          have BK369 := n2_
          have HB := n3_
          clear n0_ n1_ n2_ n3_
          (try clear hb)
          skip
          skip
          skip
          refine hK.out _ _ ⟨bc BK367 0, bc BK367 1, bc BK367 2, bc BK368 0, bc BK368 1, bc BK368 2, bc BK369 0, bc BK369 1, bc BK369 2⟩ (fun hHeld => ?_)
          clear hK K
          refine norm_ (a' := ?_) ?_ ?_
          rotate_left
          ·show Act.put _ (some 19) _ = _
           simp only [Act.put, List.setIfInBounds_toArray, List.set_cons_zero, List.set_cons_succ, i64_w, i32_w]
           rfl
          exact norm_ (by simp only [putAll, Act.put, List.setIfInBounds_toArray, List.set_cons_zero, List.set_cons_succ] <;> rfl) (hJ1_3_5 () _ ⟨hHeld, BK367.out, BK368.out, BK369.out, HB.out⟩)
         ·skip
          refine box_step ?hg (N := 9) ?hd (cs := #[.string (⟨#[]⟩ : ByteArray), .string (⟨#[]⟩ : ByteArray), .string (⟨#[]⟩ : ByteArray)]) (t := 41) ?hr ?_; (case hd => rfl); (case hg => rfl); (case hr => go_simp)
          intro gb382 hg w26 hbox hb
          have n0_ := bkB BK367 hb
          have n1_ := bkB BK368 hb
          have n2_ := bkB BK369 hb
          have n3_ := hbB HB hb
          have n4_ := Aside0.mk (hbox)
          have n5_ := geA HB hg
          have n6_ := geA HB hg
          have n7_ := neA BK367 hg
          have n8_ := neB BK367 hg
          have n9_ := neA BK368 hg
          have n10_ := neB BK368 hg
          have n11_ := neA BK369 hg
          have n12_ := neB BK369 hg
          clear BK367
          clear BK368
          clear BK369
          clear HB
          have BK367 := n0_
          have BK368 := n1_
          have BK369 := n2_
          have HB := n3_
          have BK382 := n4_
          have GW382 := n5_
          have GE382 := n6_
          have NB367_382 := n7_
          have NB382_367 := n8_
          have NB368_382 := n9_
          have NB382_368 := n10_
          have NB369_382 := n11_
          have NB382_369 := n12_
          clear n0_ n1_ n2_ n3_ n4_ n5_ n6_ n7_ n8_ n9_ n10_ n11_ n12_
          clear hb hbox hg
          refine hK.out _ _ ⟨bc BK367 0, bc BK367 1, bc BK367 2, bc BK368 0, bc BK368 1, bc BK368 2, bc BK369 0, bc BK369 1, bc BK369 2⟩ (fun hHeld => ?_)
          clear hK K
          refine norm_ (a' := ?_) ?_ ?_
          rotate_left
          ·show Act.put _ (some 9) _ = _
           simp only [Act.put, List.setIfInBounds_toArray, List.set_cons_zero, List.set_cons_succ, i64_w, i32_w]
           rfl
          exact norm_ (by simp only [putAll, Act.put, List.setIfInBounds_toArray, List.set_cons_zero, List.set_cons_succ] <;> rfl) (hJ1_3_8 (gb382) _ ⟨hHeld, BK367.out, BK368.out, BK369.out, BK382.out, GW382.out, GE382.out, NB367_382.out, NB382_367.out, NB368_382.out, NB382_368.out, NB369_382.out, NB382_369.out, HB.out⟩)
       ·skip
        rintro gb382 w26 ⟨hS_, h0_, h1_, h2_, h3_, h4_, h5_, h6_, h7_, h8_, h9_, h10_, h11_, h12_⟩
        have n0_ := Aside0.mk h0_
        have n1_ := Aside0.mk h1_
        have n2_ := Aside0.mk h2_
        have n3_ := Aside0.mk h3_
        have n4_ := Aside0.mk h4_
        have n5_ := Aside0.mk h5_
        have n6_ := Aside0.mk h6_
        have n7_ := Aside0.mk h7_
        have n8_ := Aside0.mk h8_
        have n9_ := Aside0.mk h9_
        have n10_ := Aside0.mk h10_
        have n11_ := Aside0.mk h11_
        have n12_ := Aside0.mk h12_
        clear BK367
        clear BK368
        clear BK369
        clear HB
        clear h0_ h1_ h2_ h3_ h4_ h5_ h6_ h7_ h8_ h9_ h10_ h11_ h12_
        have BK367 := n0_
        have BK368 := n1_
        have BK369 := n2_
        have BK382 := n3_
        have GW382 := n4_
        have GE382 := n5_
        have NB367_382 := n6_
        have NB382_367 := n7_
        have NB368_382 := n8_
        have NB382_368 := n9_
        have NB369_382 := n10_
        have NB382_369 := n11_
        have HB := n12_
        clear n0_ n1_ n2_ n3_ n4_ n5_ n6_ n7_ n8_ n9_ n10_ n11_ n12_
        have hHeld : u5_S0 a0_0 a0_1 a0_2 a1_0 a1_1 a1_2 a2_0 a2_1 a2_2 gb367 gb368 gb369 w26 := hS_
        refine norm_ (a' := ?_) ?_ ?_
        rotate_left
        ·simp only [putAll, Act.put, List.setIfInBounds_toArray, List.set_cons_zero, List.set_cons_succ]
         rfl
        refine one_ (i := 5) (N := some 19) #[true, true, true, true, true, true, true, false, true, false] rfl rfl (one_of HT_.out (by kernel_rfl)) (by decide) (fun K hK => ?_)
        refine goes_ Tryd.func16 (by kernel_rfl) rfl #[.agg #[.int .u64 a2_0, .int .u64 a2_1, .bool a2_2]] (by rfl) rfl rfl (by (try simp only [List.map_toArray, List.map_cons, List.map_nil]); first | done | rfl | (simp only [List.length_drop, List.length_take]; rfl)) ?_
        with_reducible refine (laws_toPoint.calls a2_0 a2_1 a2_2 t376 t377 t378 _ A11.out).mono ?_
        rintro e w27 ⟨rfl, hb⟩
        refine ⟨_, rfl, ?_⟩
        have n0_ := bkB BK367 hb
        have n1_ := bkB BK368 hb
        have n2_ := bkB BK369 hb
        have n3_ := bkB BK382 hb
        have n4_ := hbB HB hb
        clear BK367
        clear BK368
        clear BK369
        clear BK382
        clear HB
        have BK367 := n0_
        have BK368 := n1_
        have BK369 := n2_
        have BK382 := n3_
        have HB := n4_
        clear n0_ n1_ n2_ n3_ n4_
        (try clear hb)
        skip
        skip
        skip
        refine hK.out _ _ ⟨bc BK367 0, bc BK367 1, bc BK367 2, bc BK368 0, bc BK368 1, bc BK368 2, bc BK369 0, bc BK369 1, bc BK369 2⟩ (fun hHeld => ?_)
        clear hK K
        refine norm_ (a' := ?_) ?_ ?_
        rotate_left
        ·show Act.put _ (some 19) _ = _
         simp only [Act.put, List.setIfInBounds_toArray, List.set_cons_zero, List.set_cons_succ, i64_w, i32_w]
         rfl
        exact norm_ (by simp only [putAll, Act.put, List.setIfInBounds_toArray, List.set_cons_zero, List.set_cons_succ] <;> rfl) (hJ1_3_5_8 (gb382) _ ⟨hHeld, BK367.out, BK368.out, BK369.out, BK382.out, GW382.out, GE382.out, NB367_382.out, NB382_367.out, NB368_382.out, NB382_368.out, NB369_382.out, NB382_369.out, HB.out⟩)
      ·skip
       rintro _ w26 ⟨hS_, h0_, h1_, h2_, h3_⟩
       have n0_ := Aside0.mk h0_
       have n1_ := Aside0.mk h1_
       have n2_ := Aside0.mk h2_
       have n3_ := Aside0.mk h3_
       clear BK367
       clear BK368
       clear BK369
       clear HB
       clear h0_ h1_ h2_ h3_
       have BK367 := n0_
       have BK368 := n1_
       have BK369 := n2_
       have HB := n3_
       clear n0_ n1_ n2_ n3_
       have hHeld : u5_S0 a0_0 a0_1 a0_2 a1_0 a1_1 a1_2 a2_0 a2_1 a2_2 gb367 gb368 gb369 w26 := hS_
       refine norm_ (a' := ?_) ?_ ?_
       rotate_left
       ·simp only [putAll, Act.put, List.setIfInBounds_toArray, List.set_cons_zero, List.set_cons_succ]
        rfl
       refine two_ (i := 7) (j := 8) (Ni := some 21) (Nj := some 9) #[true, true, true, true, true, true, true, true, false, false] #[true, true, true, true, true, true, true, false, true, false] rfl rfl rfl rfl (two_of HT_.out (by kernel_rfl)) (by decide) (by decide) (fun K hK => ?_) (fun K hK => ?_)
       ·skip
        refine goes_ Tryd.func15 (by kernel_rfl) rfl #[.agg #[.int .u64 t370, .int .u64 t371, .bool t372], .agg #[.int .u64 t373, .int .u64 t374, .bool t375], .agg #[.int .u64 t376, .int .u64 t377, .bool t378], .string a3] (by rfl) rfl rfl (by (try simp only [List.map_toArray, List.map_cons, List.map_nil]); first | done | rfl | (simp only [List.length_drop, List.length_take]; rfl)) ?_
        with_reducible refine (spec_Agree.calls k t370 t371 t372 t373 t374 t375 t376 t377 t378 a3 t379 t380 t381 _ A12.out).mono ?_
        rintro e w27 ⟨rfl, hb⟩
        refine ⟨_, rfl, ?_⟩
        have n0_ := bkB BK367 hb
        have n1_ := bkB BK368 hb
        have n2_ := bkB BK369 hb
        have n3_ := hbB HB hb
        clear BK367
        clear BK368
        clear BK369
        clear HB
        have BK367 := n0_
        have BK368 := n1_
        have BK369 := n2_
        have HB := n3_
        clear n0_ n1_ n2_ n3_
        (try clear hb)
        skip
        skip
        skip
        refine hK.out _ _ ⟨bc BK367 0, bc BK367 1, bc BK367 2, bc BK368 0, bc BK368 1, bc BK368 2, bc BK369 0, bc BK369 1, bc BK369 2⟩ (fun hHeld => ?_)
        clear hK K
        refine norm_ (a' := ?_) ?_ ?_
        rotate_left
        ·show Act.put _ (some 21) _ = _
         simp only [Act.put, List.setIfInBounds_toArray, List.set_cons_zero, List.set_cons_succ, i64_w, i32_w]
         rfl
        exact norm_ (by simp only [putAll, Act.put, List.setIfInBounds_toArray, List.set_cons_zero, List.set_cons_succ] <;> rfl) (hJ1_3_5_7 () _ ⟨hHeld, BK367.out, BK368.out, BK369.out, HB.out⟩)
       ·skip
        refine box_step ?hg (N := 9) ?hd (cs := #[.string (⟨#[]⟩ : ByteArray), .string (⟨#[]⟩ : ByteArray), .string (⟨#[]⟩ : ByteArray)]) (t := 41) ?hr ?_; (case hd => rfl); (case hg => rfl); (case hr => go_simp)
        intro gb382 hg w27 hbox hb
        have n0_ := bkB BK367 hb
        have n1_ := bkB BK368 hb
        have n2_ := bkB BK369 hb
        have n3_ := hbB HB hb
        have n4_ := Aside0.mk (hbox)
        have n5_ := geA HB hg
        have n6_ := geA HB hg
        have n7_ := neA BK367 hg
        have n8_ := neB BK367 hg
        have n9_ := neA BK368 hg
        have n10_ := neB BK368 hg
        have n11_ := neA BK369 hg
        have n12_ := neB BK369 hg
        clear BK367
        clear BK368
        clear BK369
        clear HB
        have BK367 := n0_
        have BK368 := n1_
        have BK369 := n2_
        have HB := n3_
        have BK382 := n4_
        have GW382 := n5_
        have GE382 := n6_
        have NB367_382 := n7_
        have NB382_367 := n8_
        have NB368_382 := n9_
        have NB382_368 := n10_
        have NB369_382 := n11_
        have NB382_369 := n12_
        clear n0_ n1_ n2_ n3_ n4_ n5_ n6_ n7_ n8_ n9_ n10_ n11_ n12_
        clear hb hbox hg
        refine hK.out _ _ ⟨bc BK367 0, bc BK367 1, bc BK367 2, bc BK368 0, bc BK368 1, bc BK368 2, bc BK369 0, bc BK369 1, bc BK369 2⟩ (fun hHeld => ?_)
        clear hK K
        refine norm_ (a' := ?_) ?_ ?_
        rotate_left
        ·show Act.put _ (some 9) _ = _
         simp only [Act.put, List.setIfInBounds_toArray, List.set_cons_zero, List.set_cons_succ, i64_w, i32_w]
         rfl
        exact norm_ (by simp only [putAll, Act.put, List.setIfInBounds_toArray, List.set_cons_zero, List.set_cons_succ] <;> rfl) (hJ1_3_5_8 (gb382) _ ⟨hHeld, BK367.out, BK368.out, BK369.out, BK382.out, GW382.out, GE382.out, NB367_382.out, NB382_367.out, NB368_382.out, NB382_368.out, NB369_382.out, NB382_369.out, HB.out⟩)
     ·skip
      rintro gb382 w27 ⟨hS_, h0_, h1_, h2_, h3_, h4_, h5_, h6_, h7_, h8_, h9_, h10_, h11_, h12_⟩
      have n0_ := Aside0.mk h0_
      have n1_ := Aside0.mk h1_
      have n2_ := Aside0.mk h2_
      have n3_ := Aside0.mk h3_
      have n4_ := Aside0.mk h4_
      have n5_ := Aside0.mk h5_
      have n6_ := Aside0.mk h6_
      have n7_ := Aside0.mk h7_
      have n8_ := Aside0.mk h8_
      have n9_ := Aside0.mk h9_
      have n10_ := Aside0.mk h10_
      have n11_ := Aside0.mk h11_
      have n12_ := Aside0.mk h12_
      clear BK367
      clear BK368
      clear BK369
      clear HB
      clear h0_ h1_ h2_ h3_ h4_ h5_ h6_ h7_ h8_ h9_ h10_ h11_ h12_
      have BK367 := n0_
      have BK368 := n1_
      have BK369 := n2_
      have BK382 := n3_
      have GW382 := n4_
      have GE382 := n5_
      have NB367_382 := n6_
      have NB382_367 := n7_
      have NB368_382 := n8_
      have NB382_368 := n9_
      have NB369_382 := n10_
      have NB382_369 := n11_
      have HB := n12_
      clear n0_ n1_ n2_ n3_ n4_ n5_ n6_ n7_ n8_ n9_ n10_ n11_ n12_
      have hHeld : u5_S0 a0_0 a0_1 a0_2 a1_0 a1_1 a1_2 a2_0 a2_1 a2_2 gb367 gb368 gb369 w27 := hS_
      refine norm_ (a' := ?_) ?_ ?_
      rotate_left
      ·simp only [putAll, Act.put, List.setIfInBounds_toArray, List.set_cons_zero, List.set_cons_succ]
       rfl
      refine one_ (i := 7) (N := some 21) #[true, true, true, true, true, true, true, true, true, false] rfl rfl (one_of HT_.out (by kernel_rfl)) (by decide) (fun K hK => ?_)
      refine goes_ Tryd.func15 (by kernel_rfl) rfl #[.agg #[.int .u64 t370, .int .u64 t371, .bool t372], .agg #[.int .u64 t373, .int .u64 t374, .bool t375], .agg #[.int .u64 t376, .int .u64 t377, .bool t378], .string a3] (by rfl) rfl rfl (by (try simp only [List.map_toArray, List.map_cons, List.map_nil]); first | done | rfl | (simp only [List.length_drop, List.length_take]; rfl)) ?_
      with_reducible refine (spec_Agree.calls k t370 t371 t372 t373 t374 t375 t376 t377 t378 a3 t379 t380 t381 _ A12.out).mono ?_
      rintro e w28 ⟨rfl, hb⟩
      refine ⟨_, rfl, ?_⟩
      have n0_ := bkB BK367 hb
      have n1_ := bkB BK368 hb
      have n2_ := bkB BK369 hb
      have n3_ := bkB BK382 hb
      have n4_ := hbB HB hb
      clear BK367
      clear BK368
      clear BK369
      clear BK382
      clear HB
      have BK367 := n0_
      have BK368 := n1_
      have BK369 := n2_
      have BK382 := n3_
      have HB := n4_
      clear n0_ n1_ n2_ n3_ n4_
      (try clear hb)
      skip
      skip
      skip
      refine hK.out _ _ ⟨bc BK367 0, bc BK367 1, bc BK367 2, bc BK368 0, bc BK368 1, bc BK368 2, bc BK369 0, bc BK369 1, bc BK369 2⟩ (fun hHeld => ?_)
      clear hK K
      refine norm_ (a' := ?_) ?_ ?_
      rotate_left
      ·show Act.put _ (some 21) _ = _
       simp only [Act.put, List.setIfInBounds_toArray, List.set_cons_zero, List.set_cons_succ, i64_w, i32_w]
       rfl
      exact norm_ (by simp only [putAll, Act.put, List.setIfInBounds_toArray, List.set_cons_zero, List.set_cons_succ] <;> rfl) (hJ1_3_5_7_8 (gb382) _ ⟨hHeld, BK367.out, BK368.out, BK369.out, BK382.out, GW382.out, GE382.out, NB367_382.out, NB382_367.out, NB368_382.out, NB382_368.out, NB369_382.out, NB382_369.out, HB.out⟩)
    ·skip
     rintro _ w27 ⟨hS_, h0_, h1_, h2_, h3_⟩
     have n0_ := Aside0.mk h0_
     have n1_ := Aside0.mk h1_
     have n2_ := Aside0.mk h2_
     have n3_ := Aside0.mk h3_
     clear BK367
     clear BK368
     clear BK369
     clear HB
     clear h0_ h1_ h2_ h3_
     have BK367 := n0_
     have BK368 := n1_
     have BK369 := n2_
     have HB := n3_
     clear n0_ n1_ n2_ n3_
     have hHeld : u5_S0 a0_0 a0_1 a0_2 a1_0 a1_1 a1_2 a2_0 a2_1 a2_2 gb367 gb368 gb369 w27 := hS_
     refine norm_ (a' := ?_) ?_ ?_
     rotate_left
     ·simp only [putAll, Act.put, List.setIfInBounds_toArray, List.set_cons_zero, List.set_cons_succ]
      rfl
     refine one_ (i := 8) (N := some 9) #[true, true, true, true, true, true, true, true, true, false] rfl rfl (one_of HT_.out (by kernel_rfl)) (by decide) (fun K hK => ?_)
     refine box_step ?hg (N := 9) ?hd (cs := #[.string (⟨#[]⟩ : ByteArray), .string (⟨#[]⟩ : ByteArray), .string (⟨#[]⟩ : ByteArray)]) (t := 41) ?hr ?_; (case hd => rfl); (case hg => rfl); (case hr => go_simp)
     intro gb382 hg w28 hbox hb
     have n0_ := bkB BK367 hb
     have n1_ := bkB BK368 hb
     have n2_ := bkB BK369 hb
     have n3_ := hbB HB hb
     have n4_ := Aside0.mk (hbox)
     have n5_ := geA HB hg
     have n6_ := geA HB hg
     have n7_ := neA BK367 hg
     have n8_ := neB BK367 hg
     have n9_ := neA BK368 hg
     have n10_ := neB BK368 hg
     have n11_ := neA BK369 hg
     have n12_ := neB BK369 hg
     clear BK367
     clear BK368
     clear BK369
     clear HB
     have BK367 := n0_
     have BK368 := n1_
     have BK369 := n2_
     have HB := n3_
     have BK382 := n4_
     have GW382 := n5_
     have GE382 := n6_
     have NB367_382 := n7_
     have NB382_367 := n8_
     have NB368_382 := n9_
     have NB382_368 := n10_
     have NB369_382 := n11_
     have NB382_369 := n12_
     clear n0_ n1_ n2_ n3_ n4_ n5_ n6_ n7_ n8_ n9_ n10_ n11_ n12_
     clear hb hbox hg
     refine hK.out _ _ ⟨bc BK367 0, bc BK367 1, bc BK367 2, bc BK368 0, bc BK368 1, bc BK368 2, bc BK369 0, bc BK369 1, bc BK369 2⟩ (fun hHeld => ?_)
     clear hK K
     refine norm_ (a' := ?_) ?_ ?_
     rotate_left
     ·show Act.put _ (some 9) _ = _
      simp only [Act.put, List.setIfInBounds_toArray, List.set_cons_zero, List.set_cons_succ, i64_w, i32_w]
      rfl
     exact norm_ (by simp only [putAll, Act.put, List.setIfInBounds_toArray, List.set_cons_zero, List.set_cons_succ] <;> rfl) (hJ1_3_5_7_8 (gb382) _ ⟨hHeld, BK367.out, BK368.out, BK369.out, BK382.out, GW382.out, GE382.out, NB367_382.out, NB382_367.out, NB368_382.out, NB382_368.out, NB369_382.out, NB382_369.out, HB.out⟩)
   rintro gb382 w28 ⟨hS_, h0_, h1_, h2_, h3_, h4_, h5_, h6_, h7_, h8_, h9_, h10_, h11_, h12_⟩
   have n0_ := Aside0.mk h0_
   have n1_ := Aside0.mk h1_
   have n2_ := Aside0.mk h2_
   have n3_ := Aside0.mk h3_
   have n4_ := Aside0.mk h4_
   have n5_ := Aside0.mk h5_
   have n6_ := Aside0.mk h6_
   have n7_ := Aside0.mk h7_
   have n8_ := Aside0.mk h8_
   have n9_ := Aside0.mk h9_
   have n10_ := Aside0.mk h10_
   have n11_ := Aside0.mk h11_
   have n12_ := Aside0.mk h12_
   clear BK367
   clear BK368
   clear BK369
   clear HB
   clear h0_ h1_ h2_ h3_ h4_ h5_ h6_ h7_ h8_ h9_ h10_ h11_ h12_
   have BK367 := n0_
   have BK368 := n1_
   have BK369 := n2_
   have BK382 := n3_
   have GW382 := n4_
   have GE382 := n5_
   have NB367_382 := n6_
   have NB382_367 := n7_
   have NB368_382 := n8_
   have NB382_368 := n9_
   have NB369_382 := n10_
   have NB382_369 := n11_
   have HB := n12_
   clear n0_ n1_ n2_ n3_ n4_ n5_ n6_ n7_ n8_ n9_ n10_ n11_ n12_
   have hHeld : u5_S0 a0_0 a0_1 a0_2 a1_0 a1_1 a1_2 a2_0 a2_1 a2_2 gb367 gb368 gb369 w28 := hS_
   refine norm_ (a' := ?_) ?_ ?_
   rotate_left
   ·simp only [putAll, Act.put, List.setIfInBounds_toArray, List.set_cons_zero, List.set_cons_succ]
    rfl
   refine one_ (i := 9) (N := none) #[true, true, true, true, true, true, true, true, true, true] rfl rfl (one_of HT_.out (by kernel_rfl)) (by decide) (fun K hK => ?_)
   have hs29 : w28.cell? ⟨gb382, 0, none⟩ = some (.string (⟨#[]⟩ : ByteArray)) := bc BK382 0
   have hfs29 := blk_frozen BK382.out 0
   have hns29_0 := NB367_382.out
   have hns29_1 := NB368_382.out
   have hns29_2 := NB369_382.out
   have hms29_0 := NB382_367.out
   have hms29_1 := NB382_368.out
   have hms29_2 := NB382_369.out
   have hs30 : w28.cell? ⟨gb382, 1, none⟩ = some (.string (⟨#[]⟩ : ByteArray)) := bc BK382 1
   have hfs30 := blk_frozen BK382.out 1
   have hns30_0 := NB367_382.out
   have hns30_1 := NB368_382.out
   have hns30_2 := NB369_382.out
   have hms30_0 := NB382_367.out
   have hms30_1 := NB382_368.out
   have hms30_2 := NB382_369.out
   have hs31 : w28.cell? ⟨gb382, 2, none⟩ = some (.string (⟨#[]⟩ : ByteArray)) := bc BK382 2
   have hfs31 := blk_frozen BK382.out 2
   have hns31_0 := NB367_382.out
   have hns31_1 := NB368_382.out
   have hns31_2 := NB369_382.out
   have hms31_0 := NB382_367.out
   have hms31_1 := NB382_368.out
   have hms31_2 := NB382_369.out
   refine skip_ (w1 := ?_) (by rfl) rfl ?_ ?_
   rotate_left
   ·go_simp
    rfl
   refine hK.out _ _ ⟨((cell_far (p := ⟨gb382, _, none⟩) NB367_382.out _).trans (((cell_far (p := ⟨gb382, _, none⟩) NB367_382.out _).trans (((cell_far (p := ⟨gb382, _, none⟩) NB367_382.out _).trans (hHeld.1)))))), ((cell_far (p := ⟨gb382, _, none⟩) NB367_382.out _).trans (((cell_far (p := ⟨gb382, _, none⟩) NB367_382.out _).trans (((cell_far (p := ⟨gb382, _, none⟩) NB367_382.out _).trans (hHeld.2.1)))))), ((cell_far (p := ⟨gb382, _, none⟩) NB367_382.out _).trans (((cell_far (p := ⟨gb382, _, none⟩) NB367_382.out _).trans (((cell_far (p := ⟨gb382, _, none⟩) NB367_382.out _).trans (hHeld.2.2.1)))))), ((cell_far (p := ⟨gb382, _, none⟩) NB368_382.out _).trans (((cell_far (p := ⟨gb382, _, none⟩) NB368_382.out _).trans (((cell_far (p := ⟨gb382, _, none⟩) NB368_382.out _).trans (hHeld.2.2.2.1)))))), ((cell_far (p := ⟨gb382, _, none⟩) NB368_382.out _).trans (((cell_far (p := ⟨gb382, _, none⟩) NB368_382.out _).trans (((cell_far (p := ⟨gb382, _, none⟩) NB368_382.out _).trans (hHeld.2.2.2.2.1)))))), ((cell_far (p := ⟨gb382, _, none⟩) NB368_382.out _).trans (((cell_far (p := ⟨gb382, _, none⟩) NB368_382.out _).trans (((cell_far (p := ⟨gb382, _, none⟩) NB368_382.out _).trans (hHeld.2.2.2.2.2.1)))))), ((cell_far (p := ⟨gb382, _, none⟩) NB369_382.out _).trans (((cell_far (p := ⟨gb382, _, none⟩) NB369_382.out _).trans (((cell_far (p := ⟨gb382, _, none⟩) NB369_382.out _).trans (hHeld.2.2.2.2.2.2.1)))))), ((cell_far (p := ⟨gb382, _, none⟩) NB369_382.out _).trans (((cell_far (p := ⟨gb382, _, none⟩) NB369_382.out _).trans (((cell_far (p := ⟨gb382, _, none⟩) NB369_382.out _).trans (hHeld.2.2.2.2.2.2.2.1)))))), ((cell_far (p := ⟨gb382, _, none⟩) NB369_382.out _).trans (((cell_far (p := ⟨gb382, _, none⟩) NB369_382.out _).trans (((cell_far (p := ⟨gb382, _, none⟩) NB369_382.out _).trans (hHeld.2.2.2.2.2.2.2.2))))))⟩ (fun hHeld => ?_)
   clear hK K
   refine done_ (done_of HT_.out (by kernel_rfl)) ?_
   try go_wp2
   have n0_ : Aside0 ((((w28.setCell ⟨gb382, 0, none⟩ (.string t379)).setCell ⟨gb382, 1, none⟩ (.string t380)).setCell ⟨gb382, 2, none⟩ (.string t381)).heap[gb367]? = some (.cells #[.int .u64 a0_0, .int .u64 a0_1, .bool a0_2] 24 (0, 0))) := ⟨by (with_reducible repeat (first | refine blk_drewN ?_ _ | refine blk_drew ?_ | refine blk_alloc ?_ _)); refine blk_far ?_ NB367_382.out _; (with_reducible repeat (first | refine blk_drewN ?_ _ | refine blk_drew ?_ | refine blk_alloc ?_ _)); refine blk_far ?_ NB367_382.out _; (with_reducible repeat (first | refine blk_drewN ?_ _ | refine blk_drew ?_ | refine blk_alloc ?_ _)); refine blk_far ?_ NB367_382.out _; (with_reducible repeat (first | refine blk_drewN ?_ _ | refine blk_drew ?_ | refine blk_alloc ?_ _)); exact BK367.out⟩
   have n1_ : Aside0 ((((w28.setCell ⟨gb382, 0, none⟩ (.string t379)).setCell ⟨gb382, 1, none⟩ (.string t380)).setCell ⟨gb382, 2, none⟩ (.string t381)).heap[gb368]? = some (.cells #[.int .u64 a1_0, .int .u64 a1_1, .bool a1_2] 24 (0, 0))) := ⟨by (with_reducible repeat (first | refine blk_drewN ?_ _ | refine blk_drew ?_ | refine blk_alloc ?_ _)); refine blk_far ?_ NB368_382.out _; (with_reducible repeat (first | refine blk_drewN ?_ _ | refine blk_drew ?_ | refine blk_alloc ?_ _)); refine blk_far ?_ NB368_382.out _; (with_reducible repeat (first | refine blk_drewN ?_ _ | refine blk_drew ?_ | refine blk_alloc ?_ _)); refine blk_far ?_ NB368_382.out _; (with_reducible repeat (first | refine blk_drewN ?_ _ | refine blk_drew ?_ | refine blk_alloc ?_ _)); exact BK368.out⟩
   have n2_ : Aside0 ((((w28.setCell ⟨gb382, 0, none⟩ (.string t379)).setCell ⟨gb382, 1, none⟩ (.string t380)).setCell ⟨gb382, 2, none⟩ (.string t381)).heap[gb369]? = some (.cells #[.int .u64 a2_0, .int .u64 a2_1, .bool a2_2] 24 (0, 0))) := ⟨by (with_reducible repeat (first | refine blk_drewN ?_ _ | refine blk_drew ?_ | refine blk_alloc ?_ _)); refine blk_far ?_ NB369_382.out _; (with_reducible repeat (first | refine blk_drewN ?_ _ | refine blk_drew ?_ | refine blk_alloc ?_ _)); refine blk_far ?_ NB369_382.out _; (with_reducible repeat (first | refine blk_drewN ?_ _ | refine blk_drew ?_ | refine blk_alloc ?_ _)); refine blk_far ?_ NB369_382.out _; (with_reducible repeat (first | refine blk_drewN ?_ _ | refine blk_drew ?_ | refine blk_alloc ?_ _)); exact BK369.out⟩
   have n3_ : Aside0 ((((w28.setCell ⟨gb382, 0, none⟩ (.string t379)).setCell ⟨gb382, 1, none⟩ (.string t380)).setCell ⟨gb382, 2, none⟩ (.string t381)).heap[gb382]? = some (.cells #[.string t379, .string t380, .string t381] 41 (0, 0))) := ⟨by (with_reducible repeat (first | refine blk_drewN ?_ _ | refine blk_drew ?_ | refine blk_alloc ?_ _)); refine blk_put (cs := #[.string t379, .string t380, .string (⟨#[]⟩ : ByteArray)]) ?_ 2 _ rfl; (with_reducible repeat (first | refine blk_drewN ?_ _ | refine blk_drew ?_ | refine blk_alloc ?_ _)); refine blk_put (cs := #[.string t379, .string (⟨#[]⟩ : ByteArray), .string (⟨#[]⟩ : ByteArray)]) ?_ 1 _ rfl; (with_reducible repeat (first | refine blk_drewN ?_ _ | refine blk_drew ?_ | refine blk_alloc ?_ _)); refine blk_put (cs := #[.string (⟨#[]⟩ : ByteArray), .string (⟨#[]⟩ : ByteArray), .string (⟨#[]⟩ : ByteArray)]) ?_ 0 _ rfl; (with_reducible repeat (first | refine blk_drewN ?_ _ | refine blk_drew ?_ | refine blk_alloc ?_ _)); exact BK382.out⟩
   have n4_ : Aside0 (Below w.heap.size w (((w28.setCell ⟨gb382, 0, none⟩ (.string t379)).setCell ⟨gb382, 1, none⟩ (.string t380)).setCell ⟨gb382, 2, none⟩ (.string t381))) := ⟨by repeat (first | (with_reducible first | exact HB.out | apply below_alloc | apply pw_below_drewN | apply below_drew1 | refine below_set ?_ GE367.out | refine below_set ?_ GE368.out | refine below_set ?_ GE369.out | refine below_set ?_ GE382.out) | exact HB.out)⟩
   (try clear BK367)
   (try clear BK368)
   (try clear BK369)
   (try clear BK382)
   (try clear HB)
   generalize (((w28.setCell ⟨gb382, 0, none⟩ (.string t379)).setCell ⟨gb382, 1, none⟩ (.string t380)).setCell ⟨gb382, 2, none⟩ (.string t381)) = w32 at n0_ n1_ n2_ n3_ n4_ ⊢
   have BK367 := n0_
   have BK368 := n1_
   have BK369 := n2_
   have BK382 := n3_
   have HB := n4_
   clear n0_ n1_ n2_ n3_ n4_
   have n0_ := Aside0.mk (blk_drew BK367.out)
   have n1_ := Aside0.mk (blk_drew BK368.out)
   have n2_ := Aside0.mk (blk_drew BK369.out)
   have n3_ := Aside0.mk (blk_drew BK382.out)
   have n4_ := Aside0.mk (below_drew1 HB.out)
   clear BK367
   clear BK368
   clear BK369
   clear BK382
   clear HB
   have BK367 := n0_
   have BK368 := n1_
   have BK369 := n2_
   have BK382 := n3_
   have HB := n4_
   clear n0_ n1_ n2_ n3_ n4_
   refine start_ (n := 10) (S := fun w' => u5_S0 a0_0 a0_1 a0_2 a1_0 a1_1 a1_2 a2_0 a2_1 a2_2 gb367 gb368 gb369 w') (ds := []) #[false, false, false, false, false, false, false, false, false, false] (by kernel_rfl) rfl rfl ⟨bc BK367 0, bc BK367 1, bc BK367 2, bc BK368 0, bc BK368 1, bc BK368 2, bc BK369 0, bc BK369 1, bc BK369 2⟩ (fun hHeld => ?_); refine with_tabW laws_FnExactAgree.tab4 laws_FnExactAgree.bits4 (fun HT_ HW_ => ?_)
   generalize w32.drew = w33 at BK367 BK368 BK369 BK382 HB hHeld ⊢
   refine pure_ (i := 6) (N := some 28) (v := ?_) (a' := ?_) #[false, false, false, false, false, false, true, false, false, false] rfl rfl (any_of HT_.out (by kernel_rfl)) (fun _ _ _ h => h) (Or.inl ⟨by rfl, ?_⟩) ?_ ?_
   rotate_left
   ·intro w'
    go_simp
    with_reducible rfl
   rotate_left
   ·simp only [Act.put, List.setIfInBounds_toArray, List.set_cons_zero, List.set_cons_succ, i64_w, i32_w]
    rfl
   refine take_ (i := 0) (N := some 22) (v := ?_) (a' := ?_) #[true, false, false, false, false, false, true, false, false, false] rfl rfl (take_ofW HT_.out HW_.out (by kernel_rfl)) (fun _ _ _ h => h) (Or.inl ⟨by rfl, ?_⟩) hHeld ?_ ?_
   rotate_left
   ·rintro w' ⟨s0, s1, s2, s3, s4, s5, s6, s7, s8⟩
    go_simp
    with_reducible rfl
   rotate_left
   ·simp only [Act.put, List.setIfInBounds_toArray, List.set_cons_zero, List.set_cons_succ, i64_w, i32_w]
    rfl
   refine take_ (i := 2) (N := some 24) (v := ?_) (a' := ?_) #[true, false, true, false, false, false, true, false, false, false] rfl rfl (take_ofW HT_.out HW_.out (by kernel_rfl)) (fun _ _ _ h => h) (Or.inl ⟨by rfl, ?_⟩) hHeld ?_ ?_
   rotate_left
   ·rintro w' ⟨s0, s1, s2, s3, s4, s5, s6, s7, s8⟩
    go_simp
    with_reducible rfl
   rotate_left
   ·simp only [Act.put, List.setIfInBounds_toArray, List.set_cons_zero, List.set_cons_succ, i64_w, i32_w]
    rfl
   refine take_ (i := 4) (N := some 26) (v := ?_) (a' := ?_) #[true, false, true, false, true, false, true, false, false, false] rfl rfl (take_ofW HT_.out HW_.out (by kernel_rfl)) (fun _ _ _ h => h) (Or.inl ⟨by rfl, ?_⟩) hHeld ?_ ?_
   rotate_left
   ·rintro w' ⟨s0, s1, s2, s3, s4, s5, s6, s7, s8⟩
    go_simp
    with_reducible rfl
   rotate_left
   ·simp only [Act.put, List.setIfInBounds_toArray, List.set_cons_zero, List.set_cons_succ, i64_w, i32_w]
    rfl
   refine join_ (σ := Nat) 1 #[true, true, true, true, true, true, true, true, true, false] (fun s_ => [(23, .agg #[.int .u64 t383, .int .u64 t384, .bool t385]), (25, .agg #[.int .u64 t386, .int .u64 t387, .bool t388]), (27, .agg #[.int .u64 t389, .int .u64 t390, .bool t391]), (29, .agg #[.string t392, .string t393, .string t394]), (10, .pointer (some ⟨s_, 0, none⟩))]) (fun s_ w' => (u5_S0 a0_0 a0_1 a0_2 a1_0 a1_1 a1_2 a2_0 a2_1 a2_2 gb367 gb368 gb369 w') ∧ (w'.heap[gb367]? = some (.cells #[.int .u64 a0_0, .int .u64 a0_1, .bool a0_2] 24 (0, 0))) ∧ (w'.heap[gb368]? = some (.cells #[.int .u64 a1_0, .int .u64 a1_1, .bool a1_2] 24 (0, 0))) ∧ (w'.heap[gb369]? = some (.cells #[.int .u64 a2_0, .int .u64 a2_1, .bool a2_2] 24 (0, 0))) ∧ (w'.heap[gb382]? = some (.cells #[.string t379, .string t380, .string t381] 41 (0, 0))) ∧ (w'.heap[s_]? = some (.cells #[.string (⟨#[]⟩ : ByteArray), .string (⟨#[]⟩ : ByteArray), .string (⟨#[]⟩ : ByteArray)] 41 (0, 0))) ∧ (w.heap.size ≤ s_) ∧ (w.heap.size ≤ s_) ∧ (gb367 ≠ s_) ∧ (s_ ≠ gb367) ∧ (gb368 ≠ s_) ∧ (s_ ≠ gb368) ∧ (gb369 ≠ s_) ∧ (s_ ≠ gb369) ∧ (gb382 ≠ s_) ∧ (s_ ≠ gb382) ∧ (Below w.heap.size w w')) ?_ ?_
   rotate_left
   ·intro hJ1_3_5_7_8
    refine join_ (σ := Unit) 2 #[true, true, true, true, true, true, true, true, false, false] (fun s_ => [(23, .agg #[.int .u64 t383, .int .u64 t384, .bool t385]), (25, .agg #[.int .u64 t386, .int .u64 t387, .bool t388]), (27, .agg #[.int .u64 t389, .int .u64 t390, .bool t391]), (29, .agg #[.string t392, .string t393, .string t394])]) (fun s_ w' => (u5_S0 a0_0 a0_1 a0_2 a1_0 a1_1 a1_2 a2_0 a2_1 a2_2 gb367 gb368 gb369 w') ∧ (w'.heap[gb367]? = some (.cells #[.int .u64 a0_0, .int .u64 a0_1, .bool a0_2] 24 (0, 0))) ∧ (w'.heap[gb368]? = some (.cells #[.int .u64 a1_0, .int .u64 a1_1, .bool a1_2] 24 (0, 0))) ∧ (w'.heap[gb369]? = some (.cells #[.int .u64 a2_0, .int .u64 a2_1, .bool a2_2] 24 (0, 0))) ∧ (w'.heap[gb382]? = some (.cells #[.string t379, .string t380, .string t381] 41 (0, 0))) ∧ (Below w.heap.size w w')) ?_ ?_
    rotate_left
    ·intro hJ1_3_5_7
     refine join_ (σ := Nat) 2 #[true, true, true, true, true, true, true, false, true, false] (fun s_ => [(23, .agg #[.int .u64 t383, .int .u64 t384, .bool t385]), (25, .agg #[.int .u64 t386, .int .u64 t387, .bool t388]), (27, .agg #[.int .u64 t389, .int .u64 t390, .bool t391]), (10, .pointer (some ⟨s_, 0, none⟩))]) (fun s_ w' => (u5_S0 a0_0 a0_1 a0_2 a1_0 a1_1 a1_2 a2_0 a2_1 a2_2 gb367 gb368 gb369 w') ∧ (w'.heap[gb367]? = some (.cells #[.int .u64 a0_0, .int .u64 a0_1, .bool a0_2] 24 (0, 0))) ∧ (w'.heap[gb368]? = some (.cells #[.int .u64 a1_0, .int .u64 a1_1, .bool a1_2] 24 (0, 0))) ∧ (w'.heap[gb369]? = some (.cells #[.int .u64 a2_0, .int .u64 a2_1, .bool a2_2] 24 (0, 0))) ∧ (w'.heap[gb382]? = some (.cells #[.string t379, .string t380, .string t381] 41 (0, 0))) ∧ (w'.heap[s_]? = some (.cells #[.string (⟨#[]⟩ : ByteArray), .string (⟨#[]⟩ : ByteArray), .string (⟨#[]⟩ : ByteArray)] 41 (0, 0))) ∧ (w.heap.size ≤ s_) ∧ (w.heap.size ≤ s_) ∧ (gb367 ≠ s_) ∧ (s_ ≠ gb367) ∧ (gb368 ≠ s_) ∧ (s_ ≠ gb368) ∧ (gb369 ≠ s_) ∧ (s_ ≠ gb369) ∧ (gb382 ≠ s_) ∧ (s_ ≠ gb382) ∧ (Below w.heap.size w w')) ?_ ?_
     rotate_left
     ·intro hJ1_3_5_8
      refine join_ (σ := Unit) 3 #[true, true, true, true, true, true, true, false, false, false] (fun s_ => [(23, .agg #[.int .u64 t383, .int .u64 t384, .bool t385]), (25, .agg #[.int .u64 t386, .int .u64 t387, .bool t388]), (27, .agg #[.int .u64 t389, .int .u64 t390, .bool t391])]) (fun s_ w' => (u5_S0 a0_0 a0_1 a0_2 a1_0 a1_1 a1_2 a2_0 a2_1 a2_2 gb367 gb368 gb369 w') ∧ (w'.heap[gb367]? = some (.cells #[.int .u64 a0_0, .int .u64 a0_1, .bool a0_2] 24 (0, 0))) ∧ (w'.heap[gb368]? = some (.cells #[.int .u64 a1_0, .int .u64 a1_1, .bool a1_2] 24 (0, 0))) ∧ (w'.heap[gb369]? = some (.cells #[.int .u64 a2_0, .int .u64 a2_1, .bool a2_2] 24 (0, 0))) ∧ (w'.heap[gb382]? = some (.cells #[.string t379, .string t380, .string t381] 41 (0, 0))) ∧ (Below w.heap.size w w')) ?_ ?_
      rotate_left
      ·intro hJ1_3_5
       refine join_ (σ := Nat) 3 #[true, true, true, true, true, false, true, false, true, false] (fun s_ => [(23, .agg #[.int .u64 t383, .int .u64 t384, .bool t385]), (25, .agg #[.int .u64 t386, .int .u64 t387, .bool t388]), (10, .pointer (some ⟨s_, 0, none⟩))]) (fun s_ w' => (u5_S0 a0_0 a0_1 a0_2 a1_0 a1_1 a1_2 a2_0 a2_1 a2_2 gb367 gb368 gb369 w') ∧ (w'.heap[gb367]? = some (.cells #[.int .u64 a0_0, .int .u64 a0_1, .bool a0_2] 24 (0, 0))) ∧ (w'.heap[gb368]? = some (.cells #[.int .u64 a1_0, .int .u64 a1_1, .bool a1_2] 24 (0, 0))) ∧ (w'.heap[gb369]? = some (.cells #[.int .u64 a2_0, .int .u64 a2_1, .bool a2_2] 24 (0, 0))) ∧ (w'.heap[gb382]? = some (.cells #[.string t379, .string t380, .string t381] 41 (0, 0))) ∧ (w'.heap[s_]? = some (.cells #[.string (⟨#[]⟩ : ByteArray), .string (⟨#[]⟩ : ByteArray), .string (⟨#[]⟩ : ByteArray)] 41 (0, 0))) ∧ (w.heap.size ≤ s_) ∧ (w.heap.size ≤ s_) ∧ (gb367 ≠ s_) ∧ (s_ ≠ gb367) ∧ (gb368 ≠ s_) ∧ (s_ ≠ gb368) ∧ (gb369 ≠ s_) ∧ (s_ ≠ gb369) ∧ (gb382 ≠ s_) ∧ (s_ ≠ gb382) ∧ (Below w.heap.size w w')) ?_ ?_
       rotate_left
       ·intro hJ1_3_8
        refine join_ (σ := Unit) 4 #[true, true, true, true, true, false, true, false, false, false] (fun s_ => [(23, .agg #[.int .u64 t383, .int .u64 t384, .bool t385]), (25, .agg #[.int .u64 t386, .int .u64 t387, .bool t388])]) (fun s_ w' => (u5_S0 a0_0 a0_1 a0_2 a1_0 a1_1 a1_2 a2_0 a2_1 a2_2 gb367 gb368 gb369 w') ∧ (w'.heap[gb367]? = some (.cells #[.int .u64 a0_0, .int .u64 a0_1, .bool a0_2] 24 (0, 0))) ∧ (w'.heap[gb368]? = some (.cells #[.int .u64 a1_0, .int .u64 a1_1, .bool a1_2] 24 (0, 0))) ∧ (w'.heap[gb369]? = some (.cells #[.int .u64 a2_0, .int .u64 a2_1, .bool a2_2] 24 (0, 0))) ∧ (w'.heap[gb382]? = some (.cells #[.string t379, .string t380, .string t381] 41 (0, 0))) ∧ (Below w.heap.size w w')) ?_ ?_
        rotate_left
        ·intro hJ1_3
         refine join_ (σ := Nat) 4 #[true, true, true, false, true, false, true, false, true, false] (fun s_ => [(23, .agg #[.int .u64 t383, .int .u64 t384, .bool t385]), (10, .pointer (some ⟨s_, 0, none⟩))]) (fun s_ w' => (u5_S0 a0_0 a0_1 a0_2 a1_0 a1_1 a1_2 a2_0 a2_1 a2_2 gb367 gb368 gb369 w') ∧ (w'.heap[gb367]? = some (.cells #[.int .u64 a0_0, .int .u64 a0_1, .bool a0_2] 24 (0, 0))) ∧ (w'.heap[gb368]? = some (.cells #[.int .u64 a1_0, .int .u64 a1_1, .bool a1_2] 24 (0, 0))) ∧ (w'.heap[gb369]? = some (.cells #[.int .u64 a2_0, .int .u64 a2_1, .bool a2_2] 24 (0, 0))) ∧ (w'.heap[gb382]? = some (.cells #[.string t379, .string t380, .string t381] 41 (0, 0))) ∧ (w'.heap[s_]? = some (.cells #[.string (⟨#[]⟩ : ByteArray), .string (⟨#[]⟩ : ByteArray), .string (⟨#[]⟩ : ByteArray)] 41 (0, 0))) ∧ (w.heap.size ≤ s_) ∧ (w.heap.size ≤ s_) ∧ (gb367 ≠ s_) ∧ (s_ ≠ gb367) ∧ (gb368 ≠ s_) ∧ (s_ ≠ gb368) ∧ (gb369 ≠ s_) ∧ (s_ ≠ gb369) ∧ (gb382 ≠ s_) ∧ (s_ ≠ gb382) ∧ (Below w.heap.size w w')) ?_ ?_
         rotate_left
         ·intro hJ1_8
          refine join_ (σ := Unit) 5 #[true, true, true, false, true, false, true, false, false, false] (fun s_ => [(23, .agg #[.int .u64 t383, .int .u64 t384, .bool t385])]) (fun s_ w' => (u5_S0 a0_0 a0_1 a0_2 a1_0 a1_1 a1_2 a2_0 a2_1 a2_2 gb367 gb368 gb369 w') ∧ (w'.heap[gb367]? = some (.cells #[.int .u64 a0_0, .int .u64 a0_1, .bool a0_2] 24 (0, 0))) ∧ (w'.heap[gb368]? = some (.cells #[.int .u64 a1_0, .int .u64 a1_1, .bool a1_2] 24 (0, 0))) ∧ (w'.heap[gb369]? = some (.cells #[.int .u64 a2_0, .int .u64 a2_1, .bool a2_2] 24 (0, 0))) ∧ (w'.heap[gb382]? = some (.cells #[.string t379, .string t380, .string t381] 41 (0, 0))) ∧ (Below w.heap.size w w')) ?_ ?_
          rotate_left
          ·intro hJ1
           refine join_ (σ := Nat) 5 #[true, false, true, false, true, false, true, false, true, false] (fun s_ => [(10, .pointer (some ⟨s_, 0, none⟩))]) (fun s_ w' => (u5_S0 a0_0 a0_1 a0_2 a1_0 a1_1 a1_2 a2_0 a2_1 a2_2 gb367 gb368 gb369 w') ∧ (w'.heap[gb367]? = some (.cells #[.int .u64 a0_0, .int .u64 a0_1, .bool a0_2] 24 (0, 0))) ∧ (w'.heap[gb368]? = some (.cells #[.int .u64 a1_0, .int .u64 a1_1, .bool a1_2] 24 (0, 0))) ∧ (w'.heap[gb369]? = some (.cells #[.int .u64 a2_0, .int .u64 a2_1, .bool a2_2] 24 (0, 0))) ∧ (w'.heap[gb382]? = some (.cells #[.string t379, .string t380, .string t381] 41 (0, 0))) ∧ (w'.heap[s_]? = some (.cells #[.string (⟨#[]⟩ : ByteArray), .string (⟨#[]⟩ : ByteArray), .string (⟨#[]⟩ : ByteArray)] 41 (0, 0))) ∧ (w.heap.size ≤ s_) ∧ (w.heap.size ≤ s_) ∧ (gb367 ≠ s_) ∧ (s_ ≠ gb367) ∧ (gb368 ≠ s_) ∧ (s_ ≠ gb368) ∧ (gb369 ≠ s_) ∧ (s_ ≠ gb369) ∧ (gb382 ≠ s_) ∧ (s_ ≠ gb382) ∧ (Below w.heap.size w w')) ?_ ?_
           rotate_left
           ·intro hJ8
            refine two_ (i := 1) (j := 8) (Ni := some 23) (Nj := some 10) #[true, true, true, false, true, false, true, false, false, false] #[true, false, true, false, true, false, true, false, true, false] rfl rfl rfl rfl (two_of HT_.out (by kernel_rfl)) (by decide) (by decide) (fun K hK => ?_) (fun K hK => ?_)
            ·skip
             refine goes_ Tryd.func16 (by kernel_rfl) rfl #[.agg #[.int .u64 a0_0, .int .u64 a0_1, .bool a0_2]] (by rfl) rfl rfl (by (try simp only [List.map_toArray, List.map_cons, List.map_nil]); first | done | rfl | (simp only [List.length_drop, List.length_take]; rfl)) ?_
             with_reducible refine (laws_toPoint.calls a0_0 a0_1 a0_2 t383 t384 t385 _ A13.out).mono ?_
             rintro e w34 ⟨rfl, hb⟩
             refine ⟨_, rfl, ?_⟩
             have n0_ := bkB BK367 hb
             have n1_ := bkB BK368 hb
             have n2_ := bkB BK369 hb
             have n3_ := bkB BK382 hb
             have n4_ := hbB HB hb
             clear BK367
             clear BK368
             clear BK369
             clear BK382
             clear HB
             have BK367 := n0_
             have BK368 := n1_
             have BK369 := n2_
             have BK382 := n3_
             have HB := n4_
             clear n0_ n1_ n2_ n3_ n4_
             (try clear hb)
             skip
             skip
             skip
             refine hK.out _ _ ⟨bc BK367 0, bc BK367 1, bc BK367 2, bc BK368 0, bc BK368 1, bc BK368 2, bc BK369 0, bc BK369 1, bc BK369 2⟩ (fun hHeld => ?_)
             clear hK K
             refine norm_ (a' := ?_) ?_ ?_
             rotate_left
             ·show Act.put _ (some 23) _ = _
              simp only [Act.put, List.setIfInBounds_toArray, List.set_cons_zero, List.set_cons_succ, i64_w, i32_w]
              rfl
             exact norm_ (by simp only [putAll, Act.put, List.setIfInBounds_toArray, List.set_cons_zero, List.set_cons_succ] <;> rfl) (hJ1 () _ ⟨hHeld, BK367.out, BK368.out, BK369.out, BK382.out, HB.out⟩)
            ·skip
             refine box_step ?hg (N := 10) ?hd (cs := #[.string (⟨#[]⟩ : ByteArray), .string (⟨#[]⟩ : ByteArray), .string (⟨#[]⟩ : ByteArray)]) (t := 41) ?hr ?_; (case hd => rfl); (case hg => rfl); (case hr => go_simp)
             intro gb395 hg w34 hbox hb
             have n0_ := bkB BK367 hb
             have n1_ := bkB BK368 hb
             have n2_ := bkB BK369 hb
             have n3_ := bkB BK382 hb
             have n4_ := hbB HB hb
             have n5_ := Aside0.mk (hbox)
             have n6_ := geA HB hg
             have n7_ := geA HB hg
             have n8_ := neA BK367 hg
             have n9_ := neB BK367 hg
             have n10_ := neA BK368 hg
             have n11_ := neB BK368 hg
             have n12_ := neA BK369 hg
             have n13_ := neB BK369 hg
             have n14_ := neA BK382 hg
             have n15_ := neB BK382 hg
             clear BK367
             clear BK368
             clear BK369
             clear BK382
             clear HB
             have BK367 := n0_
             have BK368 := n1_
             have BK369 := n2_
             have BK382 := n3_
             have HB := n4_
             have BK395 := n5_
             have GW395 := n6_
             have GE395 := n7_
             have NB367_395 := n8_
             have NB395_367 := n9_
             have NB368_395 := n10_
             have NB395_368 := n11_
             have NB369_395 := n12_
             have NB395_369 := n13_
             have NB382_395 := n14_
             have NB395_382 := n15_
             clear n0_ n1_ n2_ n3_ n4_ n5_ n6_ n7_ n8_ n9_ n10_ n11_ n12_ n13_ n14_ n15_
             clear hb hbox hg
             refine hK.out _ _ ⟨bc BK367 0, bc BK367 1, bc BK367 2, bc BK368 0, bc BK368 1, bc BK368 2, bc BK369 0, bc BK369 1, bc BK369 2⟩ (fun hHeld => ?_)
             clear hK K
             refine norm_ (a' := ?_) ?_ ?_
             rotate_left
             ·show Act.put _ (some 10) _ = _
              simp only [Act.put, List.setIfInBounds_toArray, List.set_cons_zero, List.set_cons_succ, i64_w, i32_w]
              rfl
             exact norm_ (by simp only [putAll, Act.put, List.setIfInBounds_toArray, List.set_cons_zero, List.set_cons_succ] <;> rfl) (hJ8 (gb395) _ ⟨hHeld, BK367.out, BK368.out, BK369.out, BK382.out, BK395.out, GW395.out, GE395.out, NB367_395.out, NB395_367.out, NB368_395.out, NB395_368.out, NB369_395.out, NB395_369.out, NB382_395.out, NB395_382.out, HB.out⟩)
           ·skip
            rintro gb395 w35 ⟨hS_, h0_, h1_, h2_, h3_, h4_, h5_, h6_, h7_, h8_, h9_, h10_, h11_, h12_, h13_, h14_, h15_⟩
            have n0_ := Aside0.mk h0_
            have n1_ := Aside0.mk h1_
            have n2_ := Aside0.mk h2_
            have n3_ := Aside0.mk h3_
            have n4_ := Aside0.mk h4_
            have n5_ := Aside0.mk h5_
            have n6_ := Aside0.mk h6_
            have n7_ := Aside0.mk h7_
            have n8_ := Aside0.mk h8_
            have n9_ := Aside0.mk h9_
            have n10_ := Aside0.mk h10_
            have n11_ := Aside0.mk h11_
            have n12_ := Aside0.mk h12_
            have n13_ := Aside0.mk h13_
            have n14_ := Aside0.mk h14_
            have n15_ := Aside0.mk h15_
            clear BK367
            clear BK368
            clear BK369
            clear BK382
            clear HB
            clear h0_ h1_ h2_ h3_ h4_ h5_ h6_ h7_ h8_ h9_ h10_ h11_ h12_ h13_ h14_ h15_
            have BK367 := n0_
            have BK368 := n1_
            have BK369 := n2_
            have BK382 := n3_
            have BK395 := n4_
            have GW395 := n5_
            have GE395 := n6_
            have NB367_395 := n7_
            have NB395_367 := n8_
            have NB368_395 := n9_
            have NB395_368 := n10_
            have NB369_395 := n11_
            have NB395_369 := n12_
            have NB382_395 := n13_
            have NB395_382 := n14_
            have HB := n15_
            clear n0_ n1_ n2_ n3_ n4_ n5_ n6_ n7_ n8_ n9_ n10_ n11_ n12_ n13_ n14_ n15_
            have hHeld : u5_S0 a0_0 a0_1 a0_2 a1_0 a1_1 a1_2 a2_0 a2_1 a2_2 gb367 gb368 gb369 w35 := hS_
            refine norm_ (a' := ?_) ?_ ?_
            rotate_left
            ·simp only [putAll, Act.put, List.setIfInBounds_toArray, List.set_cons_zero, List.set_cons_succ]
             rfl
            refine one_ (i := 1) (N := some 23) #[true, true, true, false, true, false, true, false, true, false] rfl rfl (one_of HT_.out (by kernel_rfl)) (by decide) (fun K hK => ?_)
            refine goes_ Tryd.func16 (by kernel_rfl) rfl #[.agg #[.int .u64 a0_0, .int .u64 a0_1, .bool a0_2]] (by rfl) rfl rfl (by (try simp only [List.map_toArray, List.map_cons, List.map_nil]); first | done | rfl | (simp only [List.length_drop, List.length_take]; rfl)) ?_
            with_reducible refine (laws_toPoint.calls a0_0 a0_1 a0_2 t383 t384 t385 _ A13.out).mono ?_
            rintro e w36 ⟨rfl, hb⟩
            refine ⟨_, rfl, ?_⟩
            have n0_ := bkB BK367 hb
            have n1_ := bkB BK368 hb
            have n2_ := bkB BK369 hb
            have n3_ := bkB BK382 hb
            have n4_ := bkB BK395 hb
            have n5_ := hbB HB hb
            clear BK367
            clear BK368
            clear BK369
            clear BK382
            clear BK395
            clear HB
            have BK367 := n0_
            have BK368 := n1_
            have BK369 := n2_
            have BK382 := n3_
            have BK395 := n4_
            have HB := n5_
            clear n0_ n1_ n2_ n3_ n4_ n5_
            (try clear hb)
            skip
            skip
            skip
            refine hK.out _ _ ⟨bc BK367 0, bc BK367 1, bc BK367 2, bc BK368 0, bc BK368 1, bc BK368 2, bc BK369 0, bc BK369 1, bc BK369 2⟩ (fun hHeld => ?_)
            clear hK K
            refine norm_ (a' := ?_) ?_ ?_
            rotate_left
            ·show Act.put _ (some 23) _ = _
             simp only [Act.put, List.setIfInBounds_toArray, List.set_cons_zero, List.set_cons_succ, i64_w, i32_w]
             rfl
            exact norm_ (by simp only [putAll, Act.put, List.setIfInBounds_toArray, List.set_cons_zero, List.set_cons_succ] <;> rfl) (hJ1_8 (gb395) _ ⟨hHeld, BK367.out, BK368.out, BK369.out, BK382.out, BK395.out, GW395.out, GE395.out, NB367_395.out, NB395_367.out, NB368_395.out, NB395_368.out, NB369_395.out, NB395_369.out, NB382_395.out, NB395_382.out, HB.out⟩)
          ·skip
           rintro _ w35 ⟨hS_, h0_, h1_, h2_, h3_, h4_⟩
           have n0_ := Aside0.mk h0_
           have n1_ := Aside0.mk h1_
           have n2_ := Aside0.mk h2_
           have n3_ := Aside0.mk h3_
           have n4_ := Aside0.mk h4_
           clear BK367
           clear BK368
           clear BK369
           clear BK382
           clear HB
           clear h0_ h1_ h2_ h3_ h4_
           have BK367 := n0_
           have BK368 := n1_
           have BK369 := n2_
           have BK382 := n3_
           have HB := n4_
           clear n0_ n1_ n2_ n3_ n4_
           have hHeld : u5_S0 a0_0 a0_1 a0_2 a1_0 a1_1 a1_2 a2_0 a2_1 a2_2 gb367 gb368 gb369 w35 := hS_
           refine norm_ (a' := ?_) ?_ ?_
           rotate_left
           ·simp only [putAll, Act.put, List.setIfInBounds_toArray, List.set_cons_zero, List.set_cons_succ]
            rfl
           refine two_ (i := 3) (j := 8) (Ni := some 25) (Nj := some 10) #[true, true, true, true, true, false, true, false, false, false] #[true, true, true, false, true, false, true, false, true, false] rfl rfl rfl rfl (two_of HT_.out (by kernel_rfl)) (by decide) (by decide) (fun K hK => ?_) (fun K hK => ?_)
           ·skip
            refine goes_ Tryd.func16 (by kernel_rfl) rfl #[.agg #[.int .u64 a1_0, .int .u64 a1_1, .bool a1_2]] (by rfl) rfl rfl (by (try simp only [List.map_toArray, List.map_cons, List.map_nil]); first | done | rfl | (simp only [List.length_drop, List.length_take]; rfl)) ?_
            with_reducible refine (laws_toPoint.calls a1_0 a1_1 a1_2 t386 t387 t388 _ A14.out).mono ?_
            rintro e w36 ⟨rfl, hb⟩
            refine ⟨_, rfl, ?_⟩
            have n0_ := bkB BK367 hb
            have n1_ := bkB BK368 hb
            have n2_ := bkB BK369 hb
            have n3_ := bkB BK382 hb
            have n4_ := hbB HB hb
            clear BK367
            clear BK368
            clear BK369
            clear BK382
            clear HB
            have BK367 := n0_
            have BK368 := n1_
            have BK369 := n2_
            have BK382 := n3_
            have HB := n4_
            clear n0_ n1_ n2_ n3_ n4_
            (try clear hb)
            skip
            skip
            skip
            refine hK.out _ _ ⟨bc BK367 0, bc BK367 1, bc BK367 2, bc BK368 0, bc BK368 1, bc BK368 2, bc BK369 0, bc BK369 1, bc BK369 2⟩ (fun hHeld => ?_)
            clear hK K
            refine norm_ (a' := ?_) ?_ ?_
            rotate_left
            ·show Act.put _ (some 25) _ = _
             simp only [Act.put, List.setIfInBounds_toArray, List.set_cons_zero, List.set_cons_succ, i64_w, i32_w]
             rfl
            exact norm_ (by simp only [putAll, Act.put, List.setIfInBounds_toArray, List.set_cons_zero, List.set_cons_succ] <;> rfl) (hJ1_3 () _ ⟨hHeld, BK367.out, BK368.out, BK369.out, BK382.out, HB.out⟩)
           ·skip
            refine box_step ?hg (N := 10) ?hd (cs := #[.string (⟨#[]⟩ : ByteArray), .string (⟨#[]⟩ : ByteArray), .string (⟨#[]⟩ : ByteArray)]) (t := 41) ?hr ?_; (case hd => rfl); (case hg => rfl); (case hr => go_simp)
            intro gb395 hg w36 hbox hb
            have n0_ := bkB BK367 hb
            have n1_ := bkB BK368 hb
            have n2_ := bkB BK369 hb
            have n3_ := bkB BK382 hb
            have n4_ := hbB HB hb
            have n5_ := Aside0.mk (hbox)
            have n6_ := geA HB hg
            have n7_ := geA HB hg
            have n8_ := neA BK367 hg
            have n9_ := neB BK367 hg
            have n10_ := neA BK368 hg
            have n11_ := neB BK368 hg
            have n12_ := neA BK369 hg
            have n13_ := neB BK369 hg
            have n14_ := neA BK382 hg
            have n15_ := neB BK382 hg
            clear BK367
            clear BK368
            clear BK369
            clear BK382
            clear HB
            have BK367 := n0_
            have BK368 := n1_
            have BK369 := n2_
            have BK382 := n3_
            have HB := n4_
            have BK395 := n5_
            have GW395 := n6_
            have GE395 := n7_
            have NB367_395 := n8_
            have NB395_367 := n9_
            have NB368_395 := n10_
            have NB395_368 := n11_
            have NB369_395 := n12_
            have NB395_369 := n13_
            have NB382_395 := n14_
            have NB395_382 := n15_
            clear n0_ n1_ n2_ n3_ n4_ n5_ n6_ n7_ n8_ n9_ n10_ n11_ n12_ n13_ n14_ n15_
            clear hb hbox hg
            refine hK.out _ _ ⟨bc BK367 0, bc BK367 1, bc BK367 2, bc BK368 0, bc BK368 1, bc BK368 2, bc BK369 0, bc BK369 1, bc BK369 2⟩ (fun hHeld => ?_)
            clear hK K
            refine norm_ (a' := ?_) ?_ ?_
            rotate_left
            ·show Act.put _ (some 10) _ = _
             simp only [Act.put, List.setIfInBounds_toArray, List.set_cons_zero, List.set_cons_succ, i64_w, i32_w]
             rfl
            exact norm_ (by simp only [putAll, Act.put, List.setIfInBounds_toArray, List.set_cons_zero, List.set_cons_succ] <;> rfl) (hJ1_8 (gb395) _ ⟨hHeld, BK367.out, BK368.out, BK369.out, BK382.out, BK395.out, GW395.out, GE395.out, NB367_395.out, NB395_367.out, NB368_395.out, NB395_368.out, NB369_395.out, NB395_369.out, NB382_395.out, NB395_382.out, HB.out⟩)
         ·skip
          rintro gb395 w36 ⟨hS_, h0_, h1_, h2_, h3_, h4_, h5_, h6_, h7_, h8_, h9_, h10_, h11_, h12_, h13_, h14_, h15_⟩
          have n0_ := Aside0.mk h0_
          have n1_ := Aside0.mk h1_
          have n2_ := Aside0.mk h2_
          have n3_ := Aside0.mk h3_
          have n4_ := Aside0.mk h4_
          have n5_ := Aside0.mk h5_
          have n6_ := Aside0.mk h6_
          have n7_ := Aside0.mk h7_
          have n8_ := Aside0.mk h8_
          have n9_ := Aside0.mk h9_
          have n10_ := Aside0.mk h10_
          have n11_ := Aside0.mk h11_
          have n12_ := Aside0.mk h12_
          have n13_ := Aside0.mk h13_
          have n14_ := Aside0.mk h14_
          have n15_ := Aside0.mk h15_
          clear BK367
          clear BK368
          clear BK369
          clear BK382
          clear HB
          clear h0_ h1_ h2_ h3_ h4_ h5_ h6_ h7_ h8_ h9_ h10_ h11_ h12_ h13_ h14_ h15_
          have BK367 := n0_
          have BK368 := n1_
          have BK369 := n2_
          have BK382 := n3_
          have BK395 := n4_
          have GW395 := n5_
          have GE395 := n6_
          have NB367_395 := n7_
          have NB395_367 := n8_
          have NB368_395 := n9_
          have NB395_368 := n10_
          have NB369_395 := n11_
          have NB395_369 := n12_
          have NB382_395 := n13_
          have NB395_382 := n14_
          have HB := n15_
          clear n0_ n1_ n2_ n3_ n4_ n5_ n6_ n7_ n8_ n9_ n10_ n11_ n12_ n13_ n14_ n15_
          have hHeld : u5_S0 a0_0 a0_1 a0_2 a1_0 a1_1 a1_2 a2_0 a2_1 a2_2 gb367 gb368 gb369 w36 := hS_
          refine norm_ (a' := ?_) ?_ ?_
          rotate_left
          ·simp only [putAll, Act.put, List.setIfInBounds_toArray, List.set_cons_zero, List.set_cons_succ]
           rfl
          refine one_ (i := 3) (N := some 25) #[true, true, true, true, true, false, true, false, true, false] rfl rfl (one_of HT_.out (by kernel_rfl)) (by decide) (fun K hK => ?_)
          refine goes_ Tryd.func16 (by kernel_rfl) rfl #[.agg #[.int .u64 a1_0, .int .u64 a1_1, .bool a1_2]] (by rfl) rfl rfl (by (try simp only [List.map_toArray, List.map_cons, List.map_nil]); first | done | rfl | (simp only [List.length_drop, List.length_take]; rfl)) ?_
          with_reducible refine (laws_toPoint.calls a1_0 a1_1 a1_2 t386 t387 t388 _ A14.out).mono ?_
          rintro e w37 ⟨rfl, hb⟩
          refine ⟨_, rfl, ?_⟩
          have n0_ := bkB BK367 hb
          have n1_ := bkB BK368 hb
          have n2_ := bkB BK369 hb
          have n3_ := bkB BK382 hb
          have n4_ := bkB BK395 hb
          have n5_ := hbB HB hb
          clear BK367
          clear BK368
          clear BK369
          clear BK382
          clear BK395
          clear HB
          have BK367 := n0_
          have BK368 := n1_
          have BK369 := n2_
          have BK382 := n3_
          have BK395 := n4_
          have HB := n5_
          clear n0_ n1_ n2_ n3_ n4_ n5_
          (try clear hb)
          skip
          skip
          skip
          refine hK.out _ _ ⟨bc BK367 0, bc BK367 1, bc BK367 2, bc BK368 0, bc BK368 1, bc BK368 2, bc BK369 0, bc BK369 1, bc BK369 2⟩ (fun hHeld => ?_)
          clear hK K
          refine norm_ (a' := ?_) ?_ ?_
          rotate_left
          ·show Act.put _ (some 25) _ = _
           simp only [Act.put, List.setIfInBounds_toArray, List.set_cons_zero, List.set_cons_succ, i64_w, i32_w]
           rfl
          exact norm_ (by simp only [putAll, Act.put, List.setIfInBounds_toArray, List.set_cons_zero, List.set_cons_succ] <;> rfl) (hJ1_3_8 (gb395) _ ⟨hHeld, BK367.out, BK368.out, BK369.out, BK382.out, BK395.out, GW395.out, GE395.out, NB367_395.out, NB395_367.out, NB368_395.out, NB395_368.out, NB369_395.out, NB395_369.out, NB382_395.out, NB395_382.out, HB.out⟩)
        ·skip
         rintro _ w36 ⟨hS_, h0_, h1_, h2_, h3_, h4_⟩
         have n0_ := Aside0.mk h0_
         have n1_ := Aside0.mk h1_
         have n2_ := Aside0.mk h2_
         have n3_ := Aside0.mk h3_
         have n4_ := Aside0.mk h4_
         clear BK367
         clear BK368
         clear BK369
         clear BK382
         clear HB
         clear h0_ h1_ h2_ h3_ h4_
         have BK367 := n0_
         have BK368 := n1_
         have BK369 := n2_
         have BK382 := n3_
         have HB := n4_
         clear n0_ n1_ n2_ n3_ n4_
         have hHeld : u5_S0 a0_0 a0_1 a0_2 a1_0 a1_1 a1_2 a2_0 a2_1 a2_2 gb367 gb368 gb369 w36 := hS_
         refine norm_ (a' := ?_) ?_ ?_
         rotate_left
         ·simp only [putAll, Act.put, List.setIfInBounds_toArray, List.set_cons_zero, List.set_cons_succ]
          rfl
         refine two_ (i := 5) (j := 8) (Ni := some 27) (Nj := some 10) #[true, true, true, true, true, true, true, false, false, false] #[true, true, true, true, true, false, true, false, true, false] rfl rfl rfl rfl (two_of HT_.out (by kernel_rfl)) (by decide) (by decide) (fun K hK => ?_) (fun K hK => ?_)
         ·skip
          refine goes_ Tryd.func16 (by kernel_rfl) rfl #[.agg #[.int .u64 a2_0, .int .u64 a2_1, .bool a2_2]] (by rfl) rfl rfl (by (try simp only [List.map_toArray, List.map_cons, List.map_nil]); first | done | rfl | (simp only [List.length_drop, List.length_take]; rfl)) ?_
          with_reducible refine (laws_toPoint.calls a2_0 a2_1 a2_2 t389 t390 t391 _ A15.out).mono ?_
          rintro e w37 ⟨rfl, hb⟩
          refine ⟨_, rfl, ?_⟩
          have n0_ := bkB BK367 hb
          have n1_ := bkB BK368 hb
          have n2_ := bkB BK369 hb
          have n3_ := bkB BK382 hb
          have n4_ := hbB HB hb
          clear BK367
          clear BK368
          clear BK369
          clear BK382
          clear HB
          have BK367 := n0_
          have BK368 := n1_
          have BK369 := n2_
          have BK382 := n3_
          have HB := n4_
          clear n0_ n1_ n2_ n3_ n4_
          (try clear hb)
          skip
          skip
          skip
          refine hK.out _ _ ⟨bc BK367 0, bc BK367 1, bc BK367 2, bc BK368 0, bc BK368 1, bc BK368 2, bc BK369 0, bc BK369 1, bc BK369 2⟩ (fun hHeld => ?_)
          clear hK K
          refine norm_ (a' := ?_) ?_ ?_
          rotate_left
          ·show Act.put _ (some 27) _ = _
           simp only [Act.put, List.setIfInBounds_toArray, List.set_cons_zero, List.set_cons_succ, i64_w, i32_w]
           rfl
          exact norm_ (by simp only [putAll, Act.put, List.setIfInBounds_toArray, List.set_cons_zero, List.set_cons_succ] <;> rfl) (hJ1_3_5 () _ ⟨hHeld, BK367.out, BK368.out, BK369.out, BK382.out, HB.out⟩)
         ·skip
          refine box_step ?hg (N := 10) ?hd (cs := #[.string (⟨#[]⟩ : ByteArray), .string (⟨#[]⟩ : ByteArray), .string (⟨#[]⟩ : ByteArray)]) (t := 41) ?hr ?_; (case hd => rfl); (case hg => rfl); (case hr => go_simp)
          intro gb395 hg w37 hbox hb
          have n0_ := bkB BK367 hb
          have n1_ := bkB BK368 hb
          have n2_ := bkB BK369 hb
          have n3_ := bkB BK382 hb
          have n4_ := hbB HB hb
          have n5_ := Aside0.mk (hbox)
          have n6_ := geA HB hg
          have n7_ := geA HB hg
          have n8_ := neA BK367 hg
          have n9_ := neB BK367 hg
          have n10_ := neA BK368 hg
          have n11_ := neB BK368 hg
          have n12_ := neA BK369 hg
          have n13_ := neB BK369 hg
          have n14_ := neA BK382 hg
          have n15_ := neB BK382 hg
          clear BK367
          clear BK368
          clear BK369
          clear BK382
          clear HB
          have BK367 := n0_
          have BK368 := n1_
          have BK369 := n2_
          have BK382 := n3_
          have HB := n4_
          have BK395 := n5_
          have GW395 := n6_
          have GE395 := n7_
          have NB367_395 := n8_
          have NB395_367 := n9_
          have NB368_395 := n10_
          have NB395_368 := n11_
          have NB369_395 := n12_
          have NB395_369 := n13_
          have NB382_395 := n14_
          have NB395_382 := n15_
          clear n0_ n1_ n2_ n3_ n4_ n5_ n6_ n7_ n8_ n9_ n10_ n11_ n12_ n13_ n14_ n15_
          clear hb hbox hg
          refine hK.out _ _ ⟨bc BK367 0, bc BK367 1, bc BK367 2, bc BK368 0, bc BK368 1, bc BK368 2, bc BK369 0, bc BK369 1, bc BK369 2⟩ (fun hHeld => ?_)
          clear hK K
          refine norm_ (a' := ?_) ?_ ?_
          rotate_left
          ·show Act.put _ (some 10) _ = _
           simp only [Act.put, List.setIfInBounds_toArray, List.set_cons_zero, List.set_cons_succ, i64_w, i32_w]
           rfl
          exact norm_ (by simp only [putAll, Act.put, List.setIfInBounds_toArray, List.set_cons_zero, List.set_cons_succ] <;> rfl) (hJ1_3_8 (gb395) _ ⟨hHeld, BK367.out, BK368.out, BK369.out, BK382.out, BK395.out, GW395.out, GE395.out, NB367_395.out, NB395_367.out, NB368_395.out, NB395_368.out, NB369_395.out, NB395_369.out, NB382_395.out, NB395_382.out, HB.out⟩)
       ·skip
        rintro gb395 w37 ⟨hS_, h0_, h1_, h2_, h3_, h4_, h5_, h6_, h7_, h8_, h9_, h10_, h11_, h12_, h13_, h14_, h15_⟩
        have n0_ := Aside0.mk h0_
        have n1_ := Aside0.mk h1_
        have n2_ := Aside0.mk h2_
        have n3_ := Aside0.mk h3_
        have n4_ := Aside0.mk h4_
        have n5_ := Aside0.mk h5_
        have n6_ := Aside0.mk h6_
        have n7_ := Aside0.mk h7_
        have n8_ := Aside0.mk h8_
        have n9_ := Aside0.mk h9_
        have n10_ := Aside0.mk h10_
        have n11_ := Aside0.mk h11_
        have n12_ := Aside0.mk h12_
        have n13_ := Aside0.mk h13_
        have n14_ := Aside0.mk h14_
        have n15_ := Aside0.mk h15_
        clear BK367
        clear BK368
        clear BK369
        clear BK382
        clear HB
        clear h0_ h1_ h2_ h3_ h4_ h5_ h6_ h7_ h8_ h9_ h10_ h11_ h12_ h13_ h14_ h15_
        have BK367 := n0_
        have BK368 := n1_
        have BK369 := n2_
        have BK382 := n3_
        have BK395 := n4_
        have GW395 := n5_
        have GE395 := n6_
        have NB367_395 := n7_
        have NB395_367 := n8_
        have NB368_395 := n9_
        have NB395_368 := n10_
        have NB369_395 := n11_
        have NB395_369 := n12_
        have NB382_395 := n13_
        have NB395_382 := n14_
        have HB := n15_
        clear n0_ n1_ n2_ n3_ n4_ n5_ n6_ n7_ n8_ n9_ n10_ n11_ n12_ n13_ n14_ n15_
        have hHeld : u5_S0 a0_0 a0_1 a0_2 a1_0 a1_1 a1_2 a2_0 a2_1 a2_2 gb367 gb368 gb369 w37 := hS_
        refine norm_ (a' := ?_) ?_ ?_
        rotate_left
        ·simp only [putAll, Act.put, List.setIfInBounds_toArray, List.set_cons_zero, List.set_cons_succ]
         rfl
        refine one_ (i := 5) (N := some 27) #[true, true, true, true, true, true, true, false, true, false] rfl rfl (one_of HT_.out (by kernel_rfl)) (by decide) (fun K hK => ?_)
        refine goes_ Tryd.func16 (by kernel_rfl) rfl #[.agg #[.int .u64 a2_0, .int .u64 a2_1, .bool a2_2]] (by rfl) rfl rfl (by (try simp only [List.map_toArray, List.map_cons, List.map_nil]); first | done | rfl | (simp only [List.length_drop, List.length_take]; rfl)) ?_
        with_reducible refine (laws_toPoint.calls a2_0 a2_1 a2_2 t389 t390 t391 _ A15.out).mono ?_
        rintro e w38 ⟨rfl, hb⟩
        refine ⟨_, rfl, ?_⟩
        have n0_ := bkB BK367 hb
        have n1_ := bkB BK368 hb
        have n2_ := bkB BK369 hb
        have n3_ := bkB BK382 hb
        have n4_ := bkB BK395 hb
        have n5_ := hbB HB hb
        clear BK367
        clear BK368
        clear BK369
        clear BK382
        clear BK395
        clear HB
        have BK367 := n0_
        have BK368 := n1_
        have BK369 := n2_
        have BK382 := n3_
        have BK395 := n4_
        have HB := n5_
        clear n0_ n1_ n2_ n3_ n4_ n5_
        (try clear hb)
        skip
        skip
        skip
        refine hK.out _ _ ⟨bc BK367 0, bc BK367 1, bc BK367 2, bc BK368 0, bc BK368 1, bc BK368 2, bc BK369 0, bc BK369 1, bc BK369 2⟩ (fun hHeld => ?_)
        clear hK K
        refine norm_ (a' := ?_) ?_ ?_
        rotate_left
        ·show Act.put _ (some 27) _ = _
         simp only [Act.put, List.setIfInBounds_toArray, List.set_cons_zero, List.set_cons_succ, i64_w, i32_w]
         rfl
        exact norm_ (by simp only [putAll, Act.put, List.setIfInBounds_toArray, List.set_cons_zero, List.set_cons_succ] <;> rfl) (hJ1_3_5_8 (gb395) _ ⟨hHeld, BK367.out, BK368.out, BK369.out, BK382.out, BK395.out, GW395.out, GE395.out, NB367_395.out, NB395_367.out, NB368_395.out, NB395_368.out, NB369_395.out, NB395_369.out, NB382_395.out, NB395_382.out, HB.out⟩)
      ·skip
       rintro _ w37 ⟨hS_, h0_, h1_, h2_, h3_, h4_⟩
       have n0_ := Aside0.mk h0_
       have n1_ := Aside0.mk h1_
       have n2_ := Aside0.mk h2_
       have n3_ := Aside0.mk h3_
       have n4_ := Aside0.mk h4_
       clear BK367
       clear BK368
       clear BK369
       clear BK382
       clear HB
       clear h0_ h1_ h2_ h3_ h4_
       have BK367 := n0_
       have BK368 := n1_
       have BK369 := n2_
       have BK382 := n3_
       have HB := n4_
       clear n0_ n1_ n2_ n3_ n4_
       have hHeld : u5_S0 a0_0 a0_1 a0_2 a1_0 a1_1 a1_2 a2_0 a2_1 a2_2 gb367 gb368 gb369 w37 := hS_
       refine norm_ (a' := ?_) ?_ ?_
       rotate_left
       ·simp only [putAll, Act.put, List.setIfInBounds_toArray, List.set_cons_zero, List.set_cons_succ]
        rfl
       refine two_ (i := 7) (j := 8) (Ni := some 29) (Nj := some 10) #[true, true, true, true, true, true, true, true, false, false] #[true, true, true, true, true, true, true, false, true, false] rfl rfl rfl rfl (two_of HT_.out (by kernel_rfl)) (by decide) (by decide) (fun K hK => ?_) (fun K hK => ?_)
       ·skip
        refine goes_ Tryd.func17 (by kernel_rfl) rfl #[.agg #[.int .u64 t383, .int .u64 t384, .bool t385], .agg #[.int .u64 t386, .int .u64 t387, .bool t388], .agg #[.int .u64 t389, .int .u64 t390, .bool t391], .string a3] (by rfl) rfl rfl (by (try simp only [List.map_toArray, List.map_cons, List.map_nil]); first | done | rfl | (simp only [List.length_drop, List.length_take]; rfl)) ?_
        with_reducible refine (impl_Agree.calls k t383 t384 t385 t386 t387 t388 t389 t390 t391 a3 t392 t393 t394 _ A16.out ?_ ?_).mono ?_
        ·exact Glob.of_below hG HB.out
        ·exact GlobZ.of_below hZ HB.out
        rintro e w38 ⟨rfl, hb⟩
        refine ⟨_, rfl, ?_⟩
        have n0_ := bkB BK367 hb
        have n1_ := bkB BK368 hb
        have n2_ := bkB BK369 hb
        have n3_ := bkB BK382 hb
        have n4_ := hbB HB hb
        clear BK367
        clear BK368
        clear BK369
        clear BK382
        clear HB
        have BK367 := n0_
        have BK368 := n1_
        have BK369 := n2_
        have BK382 := n3_
        have HB := n4_
        clear n0_ n1_ n2_ n3_ n4_
        (try clear hb)
        skip
        skip
        skip
        refine hK.out _ _ ⟨bc BK367 0, bc BK367 1, bc BK367 2, bc BK368 0, bc BK368 1, bc BK368 2, bc BK369 0, bc BK369 1, bc BK369 2⟩ (fun hHeld => ?_)
        clear hK K
        refine norm_ (a' := ?_) ?_ ?_
        rotate_left
        ·show Act.put _ (some 29) _ = _
         simp only [Act.put, List.setIfInBounds_toArray, List.set_cons_zero, List.set_cons_succ, i64_w, i32_w]
         rfl
        exact norm_ (by simp only [putAll, Act.put, List.setIfInBounds_toArray, List.set_cons_zero, List.set_cons_succ] <;> rfl) (hJ1_3_5_7 () _ ⟨hHeld, BK367.out, BK368.out, BK369.out, BK382.out, HB.out⟩)
       ·skip
        refine box_step ?hg (N := 10) ?hd (cs := #[.string (⟨#[]⟩ : ByteArray), .string (⟨#[]⟩ : ByteArray), .string (⟨#[]⟩ : ByteArray)]) (t := 41) ?hr ?_; (case hd => rfl); (case hg => rfl); (case hr => go_simp)
        intro gb395 hg w38 hbox hb
        have n0_ := bkB BK367 hb
        have n1_ := bkB BK368 hb
        have n2_ := bkB BK369 hb
        have n3_ := bkB BK382 hb
        have n4_ := hbB HB hb
        have n5_ := Aside0.mk (hbox)
        have n6_ := geA HB hg
        have n7_ := geA HB hg
        have n8_ := neA BK367 hg
        have n9_ := neB BK367 hg
        have n10_ := neA BK368 hg
        have n11_ := neB BK368 hg
        have n12_ := neA BK369 hg
        have n13_ := neB BK369 hg
        have n14_ := neA BK382 hg
        have n15_ := neB BK382 hg
        clear BK367
        clear BK368
        clear BK369
        clear BK382
        clear HB
        have BK367 := n0_
        have BK368 := n1_
        have BK369 := n2_
        have BK382 := n3_
        have HB := n4_
        have BK395 := n5_
        have GW395 := n6_
        have GE395 := n7_
        have NB367_395 := n8_
        have NB395_367 := n9_
        have NB368_395 := n10_
        have NB395_368 := n11_
        have NB369_395 := n12_
        have NB395_369 := n13_
        have NB382_395 := n14_
        have NB395_382 := n15_
        clear n0_ n1_ n2_ n3_ n4_ n5_ n6_ n7_ n8_ n9_ n10_ n11_ n12_ n13_ n14_ n15_
        clear hb hbox hg
        refine hK.out _ _ ⟨bc BK367 0, bc BK367 1, bc BK367 2, bc BK368 0, bc BK368 1, bc BK368 2, bc BK369 0, bc BK369 1, bc BK369 2⟩ (fun hHeld => ?_)
        clear hK K
        refine norm_ (a' := ?_) ?_ ?_
        rotate_left
        ·show Act.put _ (some 10) _ = _
         simp only [Act.put, List.setIfInBounds_toArray, List.set_cons_zero, List.set_cons_succ, i64_w, i32_w]
         rfl
        exact norm_ (by simp only [putAll, Act.put, List.setIfInBounds_toArray, List.set_cons_zero, List.set_cons_succ] <;> rfl) (hJ1_3_5_8 (gb395) _ ⟨hHeld, BK367.out, BK368.out, BK369.out, BK382.out, BK395.out, GW395.out, GE395.out, NB367_395.out, NB395_367.out, NB368_395.out, NB395_368.out, NB369_395.out, NB395_369.out, NB382_395.out, NB395_382.out, HB.out⟩)
     ·skip
      rintro gb395 w38 ⟨hS_, h0_, h1_, h2_, h3_, h4_, h5_, h6_, h7_, h8_, h9_, h10_, h11_, h12_, h13_, h14_, h15_⟩
      have n0_ := Aside0.mk h0_
      have n1_ := Aside0.mk h1_
      have n2_ := Aside0.mk h2_
      have n3_ := Aside0.mk h3_
      have n4_ := Aside0.mk h4_
      have n5_ := Aside0.mk h5_
      have n6_ := Aside0.mk h6_
      have n7_ := Aside0.mk h7_
      have n8_ := Aside0.mk h8_
      have n9_ := Aside0.mk h9_
      have n10_ := Aside0.mk h10_
      have n11_ := Aside0.mk h11_
      have n12_ := Aside0.mk h12_
      have n13_ := Aside0.mk h13_
      have n14_ := Aside0.mk h14_
      have n15_ := Aside0.mk h15_
      clear BK367
      clear BK368
      clear BK369
      clear BK382
      clear HB
      clear h0_ h1_ h2_ h3_ h4_ h5_ h6_ h7_ h8_ h9_ h10_ h11_ h12_ h13_ h14_ h15_
      have BK367 := n0_
      have BK368 := n1_
      have BK369 := n2_
      have BK382 := n3_
      have BK395 := n4_
      have GW395 := n5_
      have GE395 := n6_
      have NB367_395 := n7_
      have NB395_367 := n8_
      have NB368_395 := n9_
      have NB395_368 := n10_
      have NB369_395 := n11_
      have NB395_369 := n12_
      have NB382_395 := n13_
      have NB395_382 := n14_
      have HB := n15_
      clear n0_ n1_ n2_ n3_ n4_ n5_ n6_ n7_ n8_ n9_ n10_ n11_ n12_ n13_ n14_ n15_
      have hHeld : u5_S0 a0_0 a0_1 a0_2 a1_0 a1_1 a1_2 a2_0 a2_1 a2_2 gb367 gb368 gb369 w38 := hS_
      refine norm_ (a' := ?_) ?_ ?_
      rotate_left
      ·simp only [putAll, Act.put, List.setIfInBounds_toArray, List.set_cons_zero, List.set_cons_succ]
       rfl
      refine one_ (i := 7) (N := some 29) #[true, true, true, true, true, true, true, true, true, false] rfl rfl (one_of HT_.out (by kernel_rfl)) (by decide) (fun K hK => ?_)
      refine goes_ Tryd.func17 (by kernel_rfl) rfl #[.agg #[.int .u64 t383, .int .u64 t384, .bool t385], .agg #[.int .u64 t386, .int .u64 t387, .bool t388], .agg #[.int .u64 t389, .int .u64 t390, .bool t391], .string a3] (by rfl) rfl rfl (by (try simp only [List.map_toArray, List.map_cons, List.map_nil]); first | done | rfl | (simp only [List.length_drop, List.length_take]; rfl)) ?_
      with_reducible refine (impl_Agree.calls k t383 t384 t385 t386 t387 t388 t389 t390 t391 a3 t392 t393 t394 _ A16.out ?_ ?_).mono ?_
      ·exact Glob.of_below hG HB.out
      ·exact GlobZ.of_below hZ HB.out
      rintro e w39 ⟨rfl, hb⟩
      refine ⟨_, rfl, ?_⟩
      have n0_ := bkB BK367 hb
      have n1_ := bkB BK368 hb
      have n2_ := bkB BK369 hb
      have n3_ := bkB BK382 hb
      have n4_ := bkB BK395 hb
      have n5_ := hbB HB hb
      clear BK367
      clear BK368
      clear BK369
      clear BK382
      clear BK395
      clear HB
      have BK367 := n0_
      have BK368 := n1_
      have BK369 := n2_
      have BK382 := n3_
      have BK395 := n4_
      have HB := n5_
      clear n0_ n1_ n2_ n3_ n4_ n5_
      (try clear hb)
      skip
      skip
      skip
      refine hK.out _ _ ⟨bc BK367 0, bc BK367 1, bc BK367 2, bc BK368 0, bc BK368 1, bc BK368 2, bc BK369 0, bc BK369 1, bc BK369 2⟩ (fun hHeld => ?_)
      clear hK K
      refine norm_ (a' := ?_) ?_ ?_
      rotate_left
      ·show Act.put _ (some 29) _ = _
       simp only [Act.put, List.setIfInBounds_toArray, List.set_cons_zero, List.set_cons_succ, i64_w, i32_w]
       rfl
      exact norm_ (by simp only [putAll, Act.put, List.setIfInBounds_toArray, List.set_cons_zero, List.set_cons_succ] <;> rfl) (hJ1_3_5_7_8 (gb395) _ ⟨hHeld, BK367.out, BK368.out, BK369.out, BK382.out, BK395.out, GW395.out, GE395.out, NB367_395.out, NB395_367.out, NB368_395.out, NB395_368.out, NB369_395.out, NB395_369.out, NB382_395.out, NB395_382.out, HB.out⟩)
    ·skip
     rintro _ w38 ⟨hS_, h0_, h1_, h2_, h3_, h4_⟩
     have n0_ := Aside0.mk h0_
     have n1_ := Aside0.mk h1_
     have n2_ := Aside0.mk h2_
     have n3_ := Aside0.mk h3_
     have n4_ := Aside0.mk h4_
     clear BK367
     clear BK368
     clear BK369
     clear BK382
     clear HB
     clear h0_ h1_ h2_ h3_ h4_
     have BK367 := n0_
     have BK368 := n1_
     have BK369 := n2_
     have BK382 := n3_
     have HB := n4_
     clear n0_ n1_ n2_ n3_ n4_
     have hHeld : u5_S0 a0_0 a0_1 a0_2 a1_0 a1_1 a1_2 a2_0 a2_1 a2_2 gb367 gb368 gb369 w38 := hS_
     refine norm_ (a' := ?_) ?_ ?_
     rotate_left
     ·simp only [putAll, Act.put, List.setIfInBounds_toArray, List.set_cons_zero, List.set_cons_succ]
      rfl
     refine one_ (i := 8) (N := some 10) #[true, true, true, true, true, true, true, true, true, false] rfl rfl (one_of HT_.out (by kernel_rfl)) (by decide) (fun K hK => ?_)
     refine box_step ?hg (N := 10) ?hd (cs := #[.string (⟨#[]⟩ : ByteArray), .string (⟨#[]⟩ : ByteArray), .string (⟨#[]⟩ : ByteArray)]) (t := 41) ?hr ?_; (case hd => rfl); (case hg => rfl); (case hr => go_simp)
     intro gb395 hg w39 hbox hb
     have n0_ := bkB BK367 hb
     have n1_ := bkB BK368 hb
     have n2_ := bkB BK369 hb
     have n3_ := bkB BK382 hb
     have n4_ := hbB HB hb
     have n5_ := Aside0.mk (hbox)
     have n6_ := geA HB hg
     have n7_ := geA HB hg
     have n8_ := neA BK367 hg
     have n9_ := neB BK367 hg
     have n10_ := neA BK368 hg
     have n11_ := neB BK368 hg
     have n12_ := neA BK369 hg
     have n13_ := neB BK369 hg
     have n14_ := neA BK382 hg
     have n15_ := neB BK382 hg
     clear BK367
     clear BK368
     clear BK369
     clear BK382
     clear HB
     have BK367 := n0_
     have BK368 := n1_
     have BK369 := n2_
     have BK382 := n3_
     have HB := n4_
     have BK395 := n5_
     have GW395 := n6_
     have GE395 := n7_
     have NB367_395 := n8_
     have NB395_367 := n9_
     have NB368_395 := n10_
     have NB395_368 := n11_
     have NB369_395 := n12_
     have NB395_369 := n13_
     have NB382_395 := n14_
     have NB395_382 := n15_
     clear n0_ n1_ n2_ n3_ n4_ n5_ n6_ n7_ n8_ n9_ n10_ n11_ n12_ n13_ n14_ n15_
     clear hb hbox hg
     refine hK.out _ _ ⟨bc BK367 0, bc BK367 1, bc BK367 2, bc BK368 0, bc BK368 1, bc BK368 2, bc BK369 0, bc BK369 1, bc BK369 2⟩ (fun hHeld => ?_)
     clear hK K
     refine norm_ (a' := ?_) ?_ ?_
     rotate_left
     ·show Act.put _ (some 10) _ = _
      simp only [Act.put, List.setIfInBounds_toArray, List.set_cons_zero, List.set_cons_succ, i64_w, i32_w]
      rfl
     exact norm_ (by simp only [putAll, Act.put, List.setIfInBounds_toArray, List.set_cons_zero, List.set_cons_succ] <;> rfl) (hJ1_3_5_7_8 (gb395) _ ⟨hHeld, BK367.out, BK368.out, BK369.out, BK382.out, BK395.out, GW395.out, GE395.out, NB367_395.out, NB395_367.out, NB368_395.out, NB395_368.out, NB369_395.out, NB395_369.out, NB382_395.out, NB395_382.out, HB.out⟩)
   rintro gb395 w39 ⟨hS_, h0_, h1_, h2_, h3_, h4_, h5_, h6_, h7_, h8_, h9_, h10_, h11_, h12_, h13_, h14_, h15_⟩
   have n0_ := Aside0.mk h0_
   have n1_ := Aside0.mk h1_
   have n2_ := Aside0.mk h2_
   have n3_ := Aside0.mk h3_
   have n4_ := Aside0.mk h4_
   have n5_ := Aside0.mk h5_
   have n6_ := Aside0.mk h6_
   have n7_ := Aside0.mk h7_
   have n8_ := Aside0.mk h8_
   have n9_ := Aside0.mk h9_
   have n10_ := Aside0.mk h10_
   have n11_ := Aside0.mk h11_
   have n12_ := Aside0.mk h12_
   have n13_ := Aside0.mk h13_
   have n14_ := Aside0.mk h14_
   have n15_ := Aside0.mk h15_
   clear BK367
   clear BK368
   clear BK369
   clear BK382
   clear HB
   clear h0_ h1_ h2_ h3_ h4_ h5_ h6_ h7_ h8_ h9_ h10_ h11_ h12_ h13_ h14_ h15_
   have BK367 := n0_
   have BK368 := n1_
   have BK369 := n2_
   have BK382 := n3_
   have BK395 := n4_
   have GW395 := n5_
   have GE395 := n6_
   have NB367_395 := n7_
   have NB395_367 := n8_
   have NB368_395 := n9_
   have NB395_368 := n10_
   have NB369_395 := n11_
   have NB395_369 := n12_
   have NB382_395 := n13_
   have NB395_382 := n14_
   have HB := n15_
   clear n0_ n1_ n2_ n3_ n4_ n5_ n6_ n7_ n8_ n9_ n10_ n11_ n12_ n13_ n14_ n15_
   have hHeld : u5_S0 a0_0 a0_1 a0_2 a1_0 a1_1 a1_2 a2_0 a2_1 a2_2 gb367 gb368 gb369 w39 := hS_
   refine norm_ (a' := ?_) ?_ ?_
   rotate_left
   ·simp only [putAll, Act.put, List.setIfInBounds_toArray, List.set_cons_zero, List.set_cons_succ]
    rfl
   refine one_ (i := 9) (N := none) #[true, true, true, true, true, true, true, true, true, true] rfl rfl (one_of HT_.out (by kernel_rfl)) (by decide) (fun K hK => ?_)
   have hs40 : w39.cell? ⟨gb395, 0, none⟩ = some (.string (⟨#[]⟩ : ByteArray)) := bc BK395 0
   have hfs40 := blk_frozen BK395.out 0
   have hns40_0 := NB367_395.out
   have hns40_1 := NB368_395.out
   have hns40_2 := NB369_395.out
   have hns40_3 := NB382_395.out
   have hms40_0 := NB395_367.out
   have hms40_1 := NB395_368.out
   have hms40_2 := NB395_369.out
   have hms40_3 := NB395_382.out
   have hs41 : w39.cell? ⟨gb395, 1, none⟩ = some (.string (⟨#[]⟩ : ByteArray)) := bc BK395 1
   have hfs41 := blk_frozen BK395.out 1
   have hns41_0 := NB367_395.out
   have hns41_1 := NB368_395.out
   have hns41_2 := NB369_395.out
   have hns41_3 := NB382_395.out
   have hms41_0 := NB395_367.out
   have hms41_1 := NB395_368.out
   have hms41_2 := NB395_369.out
   have hms41_3 := NB395_382.out
   have hs42 : w39.cell? ⟨gb395, 2, none⟩ = some (.string (⟨#[]⟩ : ByteArray)) := bc BK395 2
   have hfs42 := blk_frozen BK395.out 2
   have hns42_0 := NB367_395.out
   have hns42_1 := NB368_395.out
   have hns42_2 := NB369_395.out
   have hns42_3 := NB382_395.out
   have hms42_0 := NB395_367.out
   have hms42_1 := NB395_368.out
   have hms42_2 := NB395_369.out
   have hms42_3 := NB395_382.out
   refine skip_ (w1 := ?_) (by rfl) rfl ?_ ?_
   rotate_left
   ·go_simp
    rfl
   refine hK.out _ _ ⟨((cell_far (p := ⟨gb395, _, none⟩) NB367_395.out _).trans (((cell_far (p := ⟨gb395, _, none⟩) NB367_395.out _).trans (((cell_far (p := ⟨gb395, _, none⟩) NB367_395.out _).trans (hHeld.1)))))), ((cell_far (p := ⟨gb395, _, none⟩) NB367_395.out _).trans (((cell_far (p := ⟨gb395, _, none⟩) NB367_395.out _).trans (((cell_far (p := ⟨gb395, _, none⟩) NB367_395.out _).trans (hHeld.2.1)))))), ((cell_far (p := ⟨gb395, _, none⟩) NB367_395.out _).trans (((cell_far (p := ⟨gb395, _, none⟩) NB367_395.out _).trans (((cell_far (p := ⟨gb395, _, none⟩) NB367_395.out _).trans (hHeld.2.2.1)))))), ((cell_far (p := ⟨gb395, _, none⟩) NB368_395.out _).trans (((cell_far (p := ⟨gb395, _, none⟩) NB368_395.out _).trans (((cell_far (p := ⟨gb395, _, none⟩) NB368_395.out _).trans (hHeld.2.2.2.1)))))), ((cell_far (p := ⟨gb395, _, none⟩) NB368_395.out _).trans (((cell_far (p := ⟨gb395, _, none⟩) NB368_395.out _).trans (((cell_far (p := ⟨gb395, _, none⟩) NB368_395.out _).trans (hHeld.2.2.2.2.1)))))), ((cell_far (p := ⟨gb395, _, none⟩) NB368_395.out _).trans (((cell_far (p := ⟨gb395, _, none⟩) NB368_395.out _).trans (((cell_far (p := ⟨gb395, _, none⟩) NB368_395.out _).trans (hHeld.2.2.2.2.2.1)))))), ((cell_far (p := ⟨gb395, _, none⟩) NB369_395.out _).trans (((cell_far (p := ⟨gb395, _, none⟩) NB369_395.out _).trans (((cell_far (p := ⟨gb395, _, none⟩) NB369_395.out _).trans (hHeld.2.2.2.2.2.2.1)))))), ((cell_far (p := ⟨gb395, _, none⟩) NB369_395.out _).trans (((cell_far (p := ⟨gb395, _, none⟩) NB369_395.out _).trans (((cell_far (p := ⟨gb395, _, none⟩) NB369_395.out _).trans (hHeld.2.2.2.2.2.2.2.1)))))), ((cell_far (p := ⟨gb395, _, none⟩) NB369_395.out _).trans (((cell_far (p := ⟨gb395, _, none⟩) NB369_395.out _).trans (((cell_far (p := ⟨gb395, _, none⟩) NB369_395.out _).trans (hHeld.2.2.2.2.2.2.2.2))))))⟩ (fun hHeld => ?_)
   clear hK K
   refine done_ (done_of HT_.out (by kernel_rfl)) ?_
   have hnb43 := NB395_367.out
   have hnc43 := NB367_395.out
   have hnb44 := NB395_368.out
   have hnc44 := NB368_395.out
   have hnb45 := NB395_369.out
   have hnc45 := NB369_395.out
   have hnb46 := NB395_382.out
   have hnc46 := NB382_395.out
   have hcz47_0 : w39.cell? ⟨gb395, 0, none⟩ = some (.string (⟨#[]⟩ : ByteArray)) := bc BK395 0
   have hcz47_1 : w39.cell? ⟨gb395, 1, none⟩ = some (.string (⟨#[]⟩ : ByteArray)) := bc BK395 1
   have hcz47_2 : w39.cell? ⟨gb395, 2, none⟩ = some (.string (⟨#[]⟩ : ByteArray)) := bc BK395 2
   have hfz47_0 := blk_frozen BK395.out 0
   have hfz47_1 := blk_frozen BK395.out 1
   have hfz47_2 := blk_frozen BK395.out 2
   have hnb48 := NB382_367.out
   have hnc48 := NB367_382.out
   have hnb49 := NB382_368.out
   have hnc49 := NB368_382.out
   have hnb50 := NB382_369.out
   have hnc50 := NB369_382.out
   have hcz51_0 : w39.cell? ⟨gb382, 0, none⟩ = some (.string t379) := bc BK382 0
   have hcz51_1 : w39.cell? ⟨gb382, 1, none⟩ = some (.string t380) := bc BK382 1
   have hcz51_2 : w39.cell? ⟨gb382, 2, none⟩ = some (.string t381) := bc BK382 2
   have hfz51_0 := blk_frozen BK382.out 0
   have hfz51_1 := blk_frozen BK382.out 1
   have hfz51_2 := blk_frozen BK382.out 2
   try go_wp2_with (first | ((with_reducible refine gate_callee (f := 18) rfl ?_); refine goesL_ (some 32) rfl rfl Tryd.func18 (by kernel_rfl) rfl #[.agg #[.string t392, .string t393, .string t394], .agg #[.string t379, .string t380, .string t381]] rfl (by (try simp only [List.map_toArray, List.map_cons, List.map_nil]); first | done | rfl | (simp only [List.length_drop, List.length_take]; rfl)) ?_; (with_reducible refine (laws_eqKeys.calls t392 t393 t394 t379 t380 t381 true _ A17.out).mono ?_); rintro e w52 ⟨rfl, hb⟩; refine ⟨_, rfl, ?_⟩; have n0_ := Aside0.mk (blk_below (g := gb367) (o := .cells #[.int .u64 a0_0, .int .u64 a0_1, .bool a0_2] 24 (0, 0)) (by (with_reducible repeat (first | refine blk_drewN ?_ _ | refine blk_drew ?_ | refine blk_alloc ?_ _)); refine blk_far ?_ NB367_395.out _; (with_reducible repeat (first | refine blk_drewN ?_ _ | refine blk_drew ?_ | refine blk_alloc ?_ _)); refine blk_far ?_ NB367_395.out _; (with_reducible repeat (first | refine blk_drewN ?_ _ | refine blk_drew ?_ | refine blk_alloc ?_ _)); refine blk_far ?_ NB367_395.out _; (with_reducible repeat (first | refine blk_drewN ?_ _ | refine blk_drew ?_ | refine blk_alloc ?_ _)); exact BK367.out) hb); have n1_ := Aside0.mk (blk_below (g := gb368) (o := .cells #[.int .u64 a1_0, .int .u64 a1_1, .bool a1_2] 24 (0, 0)) (by (with_reducible repeat (first | refine blk_drewN ?_ _ | refine blk_drew ?_ | refine blk_alloc ?_ _)); refine blk_far ?_ NB368_395.out _; (with_reducible repeat (first | refine blk_drewN ?_ _ | refine blk_drew ?_ | refine blk_alloc ?_ _)); refine blk_far ?_ NB368_395.out _; (with_reducible repeat (first | refine blk_drewN ?_ _ | refine blk_drew ?_ | refine blk_alloc ?_ _)); refine blk_far ?_ NB368_395.out _; (with_reducible repeat (first | refine blk_drewN ?_ _ | refine blk_drew ?_ | refine blk_alloc ?_ _)); exact BK368.out) hb); have n2_ := Aside0.mk (blk_below (g := gb369) (o := .cells #[.int .u64 a2_0, .int .u64 a2_1, .bool a2_2] 24 (0, 0)) (by (with_reducible repeat (first | refine blk_drewN ?_ _ | refine blk_drew ?_ | refine blk_alloc ?_ _)); refine blk_far ?_ NB369_395.out _; (with_reducible repeat (first | refine blk_drewN ?_ _ | refine blk_drew ?_ | refine blk_alloc ?_ _)); refine blk_far ?_ NB369_395.out _; (with_reducible repeat (first | refine blk_drewN ?_ _ | refine blk_drew ?_ | refine blk_alloc ?_ _)); refine blk_far ?_ NB369_395.out _; (with_reducible repeat (first | refine blk_drewN ?_ _ | refine blk_drew ?_ | refine blk_alloc ?_ _)); exact BK369.out) hb); have n3_ := Aside0.mk (blk_below (g := gb382) (o := .cells #[.string t379, .string t380, .string t381] 41 (0, 0)) (by (with_reducible repeat (first | refine blk_drewN ?_ _ | refine blk_drew ?_ | refine blk_alloc ?_ _)); refine blk_far ?_ NB382_395.out _; (with_reducible repeat (first | refine blk_drewN ?_ _ | refine blk_drew ?_ | refine blk_alloc ?_ _)); refine blk_far ?_ NB382_395.out _; (with_reducible repeat (first | refine blk_drewN ?_ _ | refine blk_drew ?_ | refine blk_alloc ?_ _)); refine blk_far ?_ NB382_395.out _; (with_reducible repeat (first | refine blk_drewN ?_ _ | refine blk_drew ?_ | refine blk_alloc ?_ _)); exact BK382.out) hb); have n4_ := Aside0.mk (blk_below (g := gb395) (o := .cells #[.string t392, .string t393, .string t394] 41 (0, 0)) (by (with_reducible repeat (first | refine blk_drewN ?_ _ | refine blk_drew ?_ | refine blk_alloc ?_ _)); refine blk_put (cs := #[.string t392, .string t393, .string (⟨#[]⟩ : ByteArray)]) ?_ 2 _ rfl; (with_reducible repeat (first | refine blk_drewN ?_ _ | refine blk_drew ?_ | refine blk_alloc ?_ _)); refine blk_put (cs := #[.string t392, .string (⟨#[]⟩ : ByteArray), .string (⟨#[]⟩ : ByteArray)]) ?_ 1 _ rfl; (with_reducible repeat (first | refine blk_drewN ?_ _ | refine blk_drew ?_ | refine blk_alloc ?_ _)); refine blk_put (cs := #[.string (⟨#[]⟩ : ByteArray), .string (⟨#[]⟩ : ByteArray), .string (⟨#[]⟩ : ByteArray)]) ?_ 0 _ rfl; (with_reducible repeat (first | refine blk_drewN ?_ _ | refine blk_drew ?_ | refine blk_alloc ?_ _)); exact BK395.out) hb); have n5_ := Aside0.mk (below_step (by repeat (first | (with_reducible first | exact HB.out | apply below_alloc | apply pw_below_drewN | apply below_drew1 | refine below_set ?_ GE367.out | refine below_set ?_ GE368.out | refine below_set ?_ GE369.out | refine below_set ?_ GE382.out | refine below_set ?_ GE395.out) | exact HB.out)) hb); clear BK367; clear BK368; clear BK369; clear BK382; clear BK395; clear HB; have BK367 := n0_; have BK368 := n1_; have BK369 := n2_; have BK382 := n3_; have BK395 := n4_; have HB := n5_; clear n0_ n1_ n2_ n3_ n4_ n5_; (try clear hb); (try clear hb2); (try clear hk); (try clear hi)))
   go_ret
   exact ⟨rfl, by repeat (first | (with_reducible first | exact HB.out | apply below_alloc | apply pw_below_drewN | apply below_drew1 | refine below_set ?_ GE367.out | refine below_set ?_ GE368.out | refine below_set ?_ GE369.out | refine below_set ?_ GE382.out | refine below_set ?_ GE395.out) | exact HB.out)⟩
  ·replace c18 := Bool.eq_false_iff.mpr c18
   subst c18
   have H1 : (some false) = some r := by rw [if_neg (show ¬ (false = true) by decide)] at H; exact H
   clear H
   have H := H1
   clear H1
   obtain rfl := Option.some.inj H
   go_enter Tryd.func5, Tryd.ntmps5
   try go_wp2_with (first | ((with_reducible refine gate_dst (N := 4) rfl ?_); refine box_event ?hg (N := 4) ?hd (cs := #[.int .u64 a0_0, .int .u64 a0_1, .bool a0_2]) (t := 24) ?hr ?_; (case hd => rfl); (case hg => rfl); (case hr => first | (go_simp; done) | (go_simp; rfl)); intro gb367 hg w53 hbox hb; have n0_ := Aside0.mk (below_step (by repeat (first | (with_reducible first | exact HB.out | apply below_alloc | apply pw_below_drewN | apply below_drew1) | exact HB.out)) hb); have n1_ := Aside0.mk (hbox); have n2_ := Aside0.mk ((by rw [hg]; exact (below_size (by repeat (first | (with_reducible first | exact HB.out | apply below_alloc | apply pw_below_drewN | apply below_drew1) | exact HB.out))) : w.heap.size ≤ gb367)); have n3_ := Aside0.mk ((by rw [hg]; exact (below_size (by repeat (first | (with_reducible first | exact HB.out | apply below_alloc | apply pw_below_drewN | apply below_drew1) | exact HB.out))) : w.heap.size ≤ gb367)); clear HB; have HB := n0_; have BK367 := n1_; have GW367 := n2_; have GE367 := n3_; clear n0_ n1_ n2_ n3_; clear hb hbox hg) | ((with_reducible refine gate_dst (N := 5) rfl ?_); refine box_event ?hg (N := 5) ?hd (cs := #[.int .u64 a1_0, .int .u64 a1_1, .bool a1_2]) (t := 24) ?hr ?_; (case hd => rfl); (case hg => rfl); (case hr => first | (go_simp; done) | (go_simp; rfl)); intro gb368 hg w54 hbox hb; have n0_ := Aside0.mk (blk_below (g := gb367) (o := .cells #[.int .u64 a0_0, .int .u64 a0_1, .bool a0_2] 24 (0, 0)) (by (with_reducible repeat (first | refine blk_drewN ?_ _ | refine blk_drew ?_ | refine blk_alloc ?_ _)); exact BK367.out) hb); have n1_ := Aside0.mk (below_step (by repeat (first | (with_reducible first | exact HB.out | apply below_alloc | apply pw_below_drewN | apply below_drew1 | refine below_set ?_ GE367.out) | exact HB.out)) hb); have n2_ := Aside0.mk (hbox); have n3_ := Aside0.mk ((by rw [hg]; exact (below_size (by repeat (first | (with_reducible first | exact HB.out | apply below_alloc | apply pw_below_drewN | apply below_drew1 | refine below_set ?_ GE367.out) | exact HB.out))) : w.heap.size ≤ gb368)); have n4_ := Aside0.mk ((by rw [hg]; exact (below_size (by repeat (first | (with_reducible first | exact HB.out | apply below_alloc | apply pw_below_drewN | apply below_drew1 | refine below_set ?_ GE367.out) | exact HB.out))) : w.heap.size ≤ gb368)); have n5_ := Aside0.mk ((by rw [hg]; exact Nat.ne_of_lt (blk_lt (g := gb367) (o := .cells #[.int .u64 a0_0, .int .u64 a0_1, .bool a0_2] 24 (0, 0)) (by (with_reducible repeat (first | refine blk_drewN ?_ _ | refine blk_drew ?_ | refine blk_alloc ?_ _)); exact BK367.out)) : gb367 ≠ gb368)); have n6_ := Aside0.mk ((by rw [hg]; exact Nat.ne_of_gt (blk_lt (g := gb367) (o := .cells #[.int .u64 a0_0, .int .u64 a0_1, .bool a0_2] 24 (0, 0)) (by (with_reducible repeat (first | refine blk_drewN ?_ _ | refine blk_drew ?_ | refine blk_alloc ?_ _)); exact BK367.out)) : gb368 ≠ gb367)); clear BK367; clear HB; have BK367 := n0_; have HB := n1_; have BK368 := n2_; have GW368 := n3_; have GE368 := n4_; have NB367_368 := n5_; have NB368_367 := n6_; clear n0_ n1_ n2_ n3_ n4_ n5_ n6_; clear hb hbox hg) | ((with_reducible refine gate_dst (N := 6) rfl ?_); refine box_event ?hg (N := 6) ?hd (cs := #[.int .u64 a2_0, .int .u64 a2_1, .bool a2_2]) (t := 24) ?hr ?_; (case hd => rfl); (case hg => rfl); (case hr => first | (go_simp; done) | (go_simp; rfl)); intro gb369 hg w55 hbox hb; have n0_ := Aside0.mk (blk_below (g := gb367) (o := .cells #[.int .u64 a0_0, .int .u64 a0_1, .bool a0_2] 24 (0, 0)) (by (with_reducible repeat (first | refine blk_drewN ?_ _ | refine blk_drew ?_ | refine blk_alloc ?_ _)); exact BK367.out) hb); have n1_ := Aside0.mk (blk_below (g := gb368) (o := .cells #[.int .u64 a1_0, .int .u64 a1_1, .bool a1_2] 24 (0, 0)) (by (with_reducible repeat (first | refine blk_drewN ?_ _ | refine blk_drew ?_ | refine blk_alloc ?_ _)); exact BK368.out) hb); have n2_ := Aside0.mk (below_step (by repeat (first | (with_reducible first | exact HB.out | apply below_alloc | apply pw_below_drewN | apply below_drew1 | refine below_set ?_ GE367.out | refine below_set ?_ GE368.out) | exact HB.out)) hb); have n3_ := Aside0.mk (hbox); have n4_ := Aside0.mk ((by rw [hg]; exact (below_size (by repeat (first | (with_reducible first | exact HB.out | apply below_alloc | apply pw_below_drewN | apply below_drew1 | refine below_set ?_ GE367.out | refine below_set ?_ GE368.out) | exact HB.out))) : w.heap.size ≤ gb369)); have n5_ := Aside0.mk ((by rw [hg]; exact (below_size (by repeat (first | (with_reducible first | exact HB.out | apply below_alloc | apply pw_below_drewN | apply below_drew1 | refine below_set ?_ GE367.out | refine below_set ?_ GE368.out) | exact HB.out))) : w.heap.size ≤ gb369)); have n6_ := Aside0.mk ((by rw [hg]; exact Nat.ne_of_lt (blk_lt (g := gb367) (o := .cells #[.int .u64 a0_0, .int .u64 a0_1, .bool a0_2] 24 (0, 0)) (by (with_reducible repeat (first | refine blk_drewN ?_ _ | refine blk_drew ?_ | refine blk_alloc ?_ _)); exact BK367.out)) : gb367 ≠ gb369)); have n7_ := Aside0.mk ((by rw [hg]; exact Nat.ne_of_gt (blk_lt (g := gb367) (o := .cells #[.int .u64 a0_0, .int .u64 a0_1, .bool a0_2] 24 (0, 0)) (by (with_reducible repeat (first | refine blk_drewN ?_ _ | refine blk_drew ?_ | refine blk_alloc ?_ _)); exact BK367.out)) : gb369 ≠ gb367)); have n8_ := Aside0.mk ((by rw [hg]; exact Nat.ne_of_lt (blk_lt (g := gb368) (o := .cells #[.int .u64 a1_0, .int .u64 a1_1, .bool a1_2] 24 (0, 0)) (by (with_reducible repeat (first | refine blk_drewN ?_ _ | refine blk_drew ?_ | refine blk_alloc ?_ _)); exact BK368.out)) : gb368 ≠ gb369)); have n9_ := Aside0.mk ((by rw [hg]; exact Nat.ne_of_gt (blk_lt (g := gb368) (o := .cells #[.int .u64 a1_0, .int .u64 a1_1, .bool a1_2] 24 (0, 0)) (by (with_reducible repeat (first | refine blk_drewN ?_ _ | refine blk_drew ?_ | refine blk_alloc ?_ _)); exact BK368.out)) : gb369 ≠ gb368)); clear BK367; clear BK368; clear HB; have BK367 := n0_; have BK368 := n1_; have HB := n2_; have BK369 := n3_; have GW369 := n4_; have GE369 := n5_; have NB367_369 := n6_; have NB369_367 := n7_; have NB368_369 := n8_; have NB369_368 := n9_; clear n0_ n1_ n2_ n3_ n4_ n5_ n6_ n7_ n8_ n9_; clear hb hbox hg))
   have n0_ := Aside0.mk (blk_drew BK367.out)
   have n1_ := Aside0.mk (blk_drew BK368.out)
   have n2_ := Aside0.mk (blk_drew BK369.out)
   have n3_ := Aside0.mk (below_drew1 HB.out)
   clear BK367
   clear BK368
   clear BK369
   clear HB
   have BK367 := n0_
   have BK368 := n1_
   have BK369 := n2_
   have HB := n3_
   clear n0_ n1_ n2_ n3_
   refine start_ (n := 10) (S := fun w' => u5_S0 a0_0 a0_1 a0_2 a1_0 a1_1 a1_2 a2_0 a2_1 a2_2 gb367 gb368 gb369 w') (ds := []) #[false, false, false, false, false, false, false, false, false, false] (by kernel_rfl) rfl rfl ⟨bc BK367 0, bc BK367 1, bc BK367 2, bc BK368 0, bc BK368 1, bc BK368 2, bc BK369 0, bc BK369 1, bc BK369 2⟩ (fun hHeld => ?_); refine with_tabW laws_FnExactAgree.tab3 laws_FnExactAgree.bits3 (fun HT_ HW_ => ?_)
   generalize w55.drew = w56 at BK367 BK368 BK369 HB hHeld ⊢
   refine pure_ (i := 6) (N := some 20) (v := ?_) (a' := ?_) #[false, false, false, false, false, false, true, false, false, false] rfl rfl (any_of HT_.out (by kernel_rfl)) (fun _ _ _ h => h) (Or.inl ⟨by rfl, ?_⟩) ?_ ?_
   rotate_left
   ·intro w'
    go_simp
    with_reducible rfl
   rotate_left
   ·simp only [Act.put, List.setIfInBounds_toArray, List.set_cons_zero, List.set_cons_succ, i64_w, i32_w]
    rfl
   refine take_ (i := 0) (N := some 14) (v := ?_) (a' := ?_) #[true, false, false, false, false, false, true, false, false, false] rfl rfl (take_ofW HT_.out HW_.out (by kernel_rfl)) (fun _ _ _ h => h) (Or.inl ⟨by rfl, ?_⟩) hHeld ?_ ?_
   rotate_left
   ·rintro w' ⟨s0, s1, s2, s3, s4, s5, s6, s7, s8⟩
    go_simp
    with_reducible rfl
   rotate_left
   ·simp only [Act.put, List.setIfInBounds_toArray, List.set_cons_zero, List.set_cons_succ, i64_w, i32_w]
    rfl
   refine take_ (i := 2) (N := some 16) (v := ?_) (a' := ?_) #[true, false, true, false, false, false, true, false, false, false] rfl rfl (take_ofW HT_.out HW_.out (by kernel_rfl)) (fun _ _ _ h => h) (Or.inl ⟨by rfl, ?_⟩) hHeld ?_ ?_
   rotate_left
   ·rintro w' ⟨s0, s1, s2, s3, s4, s5, s6, s7, s8⟩
    go_simp
    with_reducible rfl
   rotate_left
   ·simp only [Act.put, List.setIfInBounds_toArray, List.set_cons_zero, List.set_cons_succ, i64_w, i32_w]
    rfl
   refine take_ (i := 4) (N := some 18) (v := ?_) (a' := ?_) #[true, false, true, false, true, false, true, false, false, false] rfl rfl (take_ofW HT_.out HW_.out (by kernel_rfl)) (fun _ _ _ h => h) (Or.inl ⟨by rfl, ?_⟩) hHeld ?_ ?_
   rotate_left
   ·rintro w' ⟨s0, s1, s2, s3, s4, s5, s6, s7, s8⟩
    go_simp
    with_reducible rfl
   rotate_left
   ·simp only [Act.put, List.setIfInBounds_toArray, List.set_cons_zero, List.set_cons_succ, i64_w, i32_w]
    rfl
   refine join_ (σ := Nat) 1 #[true, true, true, true, true, true, true, true, true, false] (fun s_ => [(15, .agg #[.int .u64 t370, .int .u64 t371, .bool t372]), (17, .agg #[.int .u64 t373, .int .u64 t374, .bool t375]), (19, .agg #[.int .u64 t376, .int .u64 t377, .bool t378]), (21, .agg #[.string t379, .string t380, .string t381]), (9, .pointer (some ⟨s_, 0, none⟩))]) (fun s_ w' => (u5_S0 a0_0 a0_1 a0_2 a1_0 a1_1 a1_2 a2_0 a2_1 a2_2 gb367 gb368 gb369 w') ∧ (w'.heap[gb367]? = some (.cells #[.int .u64 a0_0, .int .u64 a0_1, .bool a0_2] 24 (0, 0))) ∧ (w'.heap[gb368]? = some (.cells #[.int .u64 a1_0, .int .u64 a1_1, .bool a1_2] 24 (0, 0))) ∧ (w'.heap[gb369]? = some (.cells #[.int .u64 a2_0, .int .u64 a2_1, .bool a2_2] 24 (0, 0))) ∧ (w'.heap[s_]? = some (.cells #[.string (⟨#[]⟩ : ByteArray), .string (⟨#[]⟩ : ByteArray), .string (⟨#[]⟩ : ByteArray)] 41 (0, 0))) ∧ (w.heap.size ≤ s_) ∧ (w.heap.size ≤ s_) ∧ (gb367 ≠ s_) ∧ (s_ ≠ gb367) ∧ (gb368 ≠ s_) ∧ (s_ ≠ gb368) ∧ (gb369 ≠ s_) ∧ (s_ ≠ gb369) ∧ (Below w.heap.size w w')) ?_ ?_
   rotate_left
   ·intro hJ1_3_5_7_8
    refine join_ (σ := Unit) 2 #[true, true, true, true, true, true, true, true, false, false] (fun s_ => [(15, .agg #[.int .u64 t370, .int .u64 t371, .bool t372]), (17, .agg #[.int .u64 t373, .int .u64 t374, .bool t375]), (19, .agg #[.int .u64 t376, .int .u64 t377, .bool t378]), (21, .agg #[.string t379, .string t380, .string t381])]) (fun s_ w' => (u5_S0 a0_0 a0_1 a0_2 a1_0 a1_1 a1_2 a2_0 a2_1 a2_2 gb367 gb368 gb369 w') ∧ (w'.heap[gb367]? = some (.cells #[.int .u64 a0_0, .int .u64 a0_1, .bool a0_2] 24 (0, 0))) ∧ (w'.heap[gb368]? = some (.cells #[.int .u64 a1_0, .int .u64 a1_1, .bool a1_2] 24 (0, 0))) ∧ (w'.heap[gb369]? = some (.cells #[.int .u64 a2_0, .int .u64 a2_1, .bool a2_2] 24 (0, 0))) ∧ (Below w.heap.size w w')) ?_ ?_
    rotate_left
    ·intro hJ1_3_5_7
     refine join_ (σ := Nat) 2 #[true, true, true, true, true, true, true, false, true, false] (fun s_ => [(15, .agg #[.int .u64 t370, .int .u64 t371, .bool t372]), (17, .agg #[.int .u64 t373, .int .u64 t374, .bool t375]), (19, .agg #[.int .u64 t376, .int .u64 t377, .bool t378]), (9, .pointer (some ⟨s_, 0, none⟩))]) (fun s_ w' => (u5_S0 a0_0 a0_1 a0_2 a1_0 a1_1 a1_2 a2_0 a2_1 a2_2 gb367 gb368 gb369 w') ∧ (w'.heap[gb367]? = some (.cells #[.int .u64 a0_0, .int .u64 a0_1, .bool a0_2] 24 (0, 0))) ∧ (w'.heap[gb368]? = some (.cells #[.int .u64 a1_0, .int .u64 a1_1, .bool a1_2] 24 (0, 0))) ∧ (w'.heap[gb369]? = some (.cells #[.int .u64 a2_0, .int .u64 a2_1, .bool a2_2] 24 (0, 0))) ∧ (w'.heap[s_]? = some (.cells #[.string (⟨#[]⟩ : ByteArray), .string (⟨#[]⟩ : ByteArray), .string (⟨#[]⟩ : ByteArray)] 41 (0, 0))) ∧ (w.heap.size ≤ s_) ∧ (w.heap.size ≤ s_) ∧ (gb367 ≠ s_) ∧ (s_ ≠ gb367) ∧ (gb368 ≠ s_) ∧ (s_ ≠ gb368) ∧ (gb369 ≠ s_) ∧ (s_ ≠ gb369) ∧ (Below w.heap.size w w')) ?_ ?_
     rotate_left
     ·intro hJ1_3_5_8
      refine join_ (σ := Unit) 3 #[true, true, true, true, true, true, true, false, false, false] (fun s_ => [(15, .agg #[.int .u64 t370, .int .u64 t371, .bool t372]), (17, .agg #[.int .u64 t373, .int .u64 t374, .bool t375]), (19, .agg #[.int .u64 t376, .int .u64 t377, .bool t378])]) (fun s_ w' => (u5_S0 a0_0 a0_1 a0_2 a1_0 a1_1 a1_2 a2_0 a2_1 a2_2 gb367 gb368 gb369 w') ∧ (w'.heap[gb367]? = some (.cells #[.int .u64 a0_0, .int .u64 a0_1, .bool a0_2] 24 (0, 0))) ∧ (w'.heap[gb368]? = some (.cells #[.int .u64 a1_0, .int .u64 a1_1, .bool a1_2] 24 (0, 0))) ∧ (w'.heap[gb369]? = some (.cells #[.int .u64 a2_0, .int .u64 a2_1, .bool a2_2] 24 (0, 0))) ∧ (Below w.heap.size w w')) ?_ ?_
      rotate_left
      ·intro hJ1_3_5
       refine join_ (σ := Nat) 3 #[true, true, true, true, true, false, true, false, true, false] (fun s_ => [(15, .agg #[.int .u64 t370, .int .u64 t371, .bool t372]), (17, .agg #[.int .u64 t373, .int .u64 t374, .bool t375]), (9, .pointer (some ⟨s_, 0, none⟩))]) (fun s_ w' => (u5_S0 a0_0 a0_1 a0_2 a1_0 a1_1 a1_2 a2_0 a2_1 a2_2 gb367 gb368 gb369 w') ∧ (w'.heap[gb367]? = some (.cells #[.int .u64 a0_0, .int .u64 a0_1, .bool a0_2] 24 (0, 0))) ∧ (w'.heap[gb368]? = some (.cells #[.int .u64 a1_0, .int .u64 a1_1, .bool a1_2] 24 (0, 0))) ∧ (w'.heap[gb369]? = some (.cells #[.int .u64 a2_0, .int .u64 a2_1, .bool a2_2] 24 (0, 0))) ∧ (w'.heap[s_]? = some (.cells #[.string (⟨#[]⟩ : ByteArray), .string (⟨#[]⟩ : ByteArray), .string (⟨#[]⟩ : ByteArray)] 41 (0, 0))) ∧ (w.heap.size ≤ s_) ∧ (w.heap.size ≤ s_) ∧ (gb367 ≠ s_) ∧ (s_ ≠ gb367) ∧ (gb368 ≠ s_) ∧ (s_ ≠ gb368) ∧ (gb369 ≠ s_) ∧ (s_ ≠ gb369) ∧ (Below w.heap.size w w')) ?_ ?_
       rotate_left
       ·intro hJ1_3_8
        refine join_ (σ := Unit) 4 #[true, true, true, true, true, false, true, false, false, false] (fun s_ => [(15, .agg #[.int .u64 t370, .int .u64 t371, .bool t372]), (17, .agg #[.int .u64 t373, .int .u64 t374, .bool t375])]) (fun s_ w' => (u5_S0 a0_0 a0_1 a0_2 a1_0 a1_1 a1_2 a2_0 a2_1 a2_2 gb367 gb368 gb369 w') ∧ (w'.heap[gb367]? = some (.cells #[.int .u64 a0_0, .int .u64 a0_1, .bool a0_2] 24 (0, 0))) ∧ (w'.heap[gb368]? = some (.cells #[.int .u64 a1_0, .int .u64 a1_1, .bool a1_2] 24 (0, 0))) ∧ (w'.heap[gb369]? = some (.cells #[.int .u64 a2_0, .int .u64 a2_1, .bool a2_2] 24 (0, 0))) ∧ (Below w.heap.size w w')) ?_ ?_
        rotate_left
        ·intro hJ1_3
         refine join_ (σ := Nat) 4 #[true, true, true, false, true, false, true, false, true, false] (fun s_ => [(15, .agg #[.int .u64 t370, .int .u64 t371, .bool t372]), (9, .pointer (some ⟨s_, 0, none⟩))]) (fun s_ w' => (u5_S0 a0_0 a0_1 a0_2 a1_0 a1_1 a1_2 a2_0 a2_1 a2_2 gb367 gb368 gb369 w') ∧ (w'.heap[gb367]? = some (.cells #[.int .u64 a0_0, .int .u64 a0_1, .bool a0_2] 24 (0, 0))) ∧ (w'.heap[gb368]? = some (.cells #[.int .u64 a1_0, .int .u64 a1_1, .bool a1_2] 24 (0, 0))) ∧ (w'.heap[gb369]? = some (.cells #[.int .u64 a2_0, .int .u64 a2_1, .bool a2_2] 24 (0, 0))) ∧ (w'.heap[s_]? = some (.cells #[.string (⟨#[]⟩ : ByteArray), .string (⟨#[]⟩ : ByteArray), .string (⟨#[]⟩ : ByteArray)] 41 (0, 0))) ∧ (w.heap.size ≤ s_) ∧ (w.heap.size ≤ s_) ∧ (gb367 ≠ s_) ∧ (s_ ≠ gb367) ∧ (gb368 ≠ s_) ∧ (s_ ≠ gb368) ∧ (gb369 ≠ s_) ∧ (s_ ≠ gb369) ∧ (Below w.heap.size w w')) ?_ ?_
         rotate_left
         ·intro hJ1_8
          refine join_ (σ := Unit) 5 #[true, true, true, false, true, false, true, false, false, false] (fun s_ => [(15, .agg #[.int .u64 t370, .int .u64 t371, .bool t372])]) (fun s_ w' => (u5_S0 a0_0 a0_1 a0_2 a1_0 a1_1 a1_2 a2_0 a2_1 a2_2 gb367 gb368 gb369 w') ∧ (w'.heap[gb367]? = some (.cells #[.int .u64 a0_0, .int .u64 a0_1, .bool a0_2] 24 (0, 0))) ∧ (w'.heap[gb368]? = some (.cells #[.int .u64 a1_0, .int .u64 a1_1, .bool a1_2] 24 (0, 0))) ∧ (w'.heap[gb369]? = some (.cells #[.int .u64 a2_0, .int .u64 a2_1, .bool a2_2] 24 (0, 0))) ∧ (Below w.heap.size w w')) ?_ ?_
          rotate_left
          ·intro hJ1
           refine join_ (σ := Nat) 5 #[true, false, true, false, true, false, true, false, true, false] (fun s_ => [(9, .pointer (some ⟨s_, 0, none⟩))]) (fun s_ w' => (u5_S0 a0_0 a0_1 a0_2 a1_0 a1_1 a1_2 a2_0 a2_1 a2_2 gb367 gb368 gb369 w') ∧ (w'.heap[gb367]? = some (.cells #[.int .u64 a0_0, .int .u64 a0_1, .bool a0_2] 24 (0, 0))) ∧ (w'.heap[gb368]? = some (.cells #[.int .u64 a1_0, .int .u64 a1_1, .bool a1_2] 24 (0, 0))) ∧ (w'.heap[gb369]? = some (.cells #[.int .u64 a2_0, .int .u64 a2_1, .bool a2_2] 24 (0, 0))) ∧ (w'.heap[s_]? = some (.cells #[.string (⟨#[]⟩ : ByteArray), .string (⟨#[]⟩ : ByteArray), .string (⟨#[]⟩ : ByteArray)] 41 (0, 0))) ∧ (w.heap.size ≤ s_) ∧ (w.heap.size ≤ s_) ∧ (gb367 ≠ s_) ∧ (s_ ≠ gb367) ∧ (gb368 ≠ s_) ∧ (s_ ≠ gb368) ∧ (gb369 ≠ s_) ∧ (s_ ≠ gb369) ∧ (Below w.heap.size w w')) ?_ ?_
           rotate_left
           ·intro hJ8
            refine two_ (i := 1) (j := 8) (Ni := some 15) (Nj := some 9) #[true, true, true, false, true, false, true, false, false, false] #[true, false, true, false, true, false, true, false, true, false] rfl rfl rfl rfl (two_of HT_.out (by kernel_rfl)) (by decide) (by decide) (fun K hK => ?_) (fun K hK => ?_)
            ·skip
             refine goes_ Tryd.func16 (by kernel_rfl) rfl #[.agg #[.int .u64 a0_0, .int .u64 a0_1, .bool a0_2]] (by rfl) rfl rfl (by (try simp only [List.map_toArray, List.map_cons, List.map_nil]); first | done | rfl | (simp only [List.length_drop, List.length_take]; rfl)) ?_
             with_reducible refine (laws_toPoint.calls a0_0 a0_1 a0_2 t370 t371 t372 _ A9.out).mono ?_
             rintro e w57 ⟨rfl, hb⟩
             refine ⟨_, rfl, ?_⟩
             have n0_ := bkB BK367 hb
             have n1_ := bkB BK368 hb
             have n2_ := bkB BK369 hb
             have n3_ := hbB HB hb
             clear BK367
             clear BK368
             clear BK369
             clear HB
             have BK367 := n0_
             have BK368 := n1_
             have BK369 := n2_
             have HB := n3_
             clear n0_ n1_ n2_ n3_
             (try clear hb)
             skip
             skip
             skip
             refine hK.out _ _ ⟨bc BK367 0, bc BK367 1, bc BK367 2, bc BK368 0, bc BK368 1, bc BK368 2, bc BK369 0, bc BK369 1, bc BK369 2⟩ (fun hHeld => ?_)
             clear hK K
             refine norm_ (a' := ?_) ?_ ?_
             rotate_left
             ·show Act.put _ (some 15) _ = _
              simp only [Act.put, List.setIfInBounds_toArray, List.set_cons_zero, List.set_cons_succ, i64_w, i32_w]
              rfl
             exact norm_ (by simp only [putAll, Act.put, List.setIfInBounds_toArray, List.set_cons_zero, List.set_cons_succ] <;> rfl) (hJ1 () _ ⟨hHeld, BK367.out, BK368.out, BK369.out, HB.out⟩)
            ·skip
             refine box_step ?hg (N := 9) ?hd (cs := #[.string (⟨#[]⟩ : ByteArray), .string (⟨#[]⟩ : ByteArray), .string (⟨#[]⟩ : ByteArray)]) (t := 41) ?hr ?_; (case hd => rfl); (case hg => rfl); (case hr => go_simp)
             intro gb382 hg w57 hbox hb
             have n0_ := bkB BK367 hb
             have n1_ := bkB BK368 hb
             have n2_ := bkB BK369 hb
             have n3_ := hbB HB hb
             have n4_ := Aside0.mk (hbox)
             have n5_ := geA HB hg
             have n6_ := geA HB hg
             have n7_ := neA BK367 hg
             have n8_ := neB BK367 hg
             have n9_ := neA BK368 hg
             have n10_ := neB BK368 hg
             have n11_ := neA BK369 hg
             have n12_ := neB BK369 hg
             clear BK367
             clear BK368
             clear BK369
             clear HB
             have BK367 := n0_
             have BK368 := n1_
             have BK369 := n2_
             have HB := n3_
             have BK382 := n4_
             have GW382 := n5_
             have GE382 := n6_
             have NB367_382 := n7_
             have NB382_367 := n8_
             have NB368_382 := n9_
             have NB382_368 := n10_
             have NB369_382 := n11_
             have NB382_369 := n12_
             clear n0_ n1_ n2_ n3_ n4_ n5_ n6_ n7_ n8_ n9_ n10_ n11_ n12_
             clear hb hbox hg
             refine hK.out _ _ ⟨bc BK367 0, bc BK367 1, bc BK367 2, bc BK368 0, bc BK368 1, bc BK368 2, bc BK369 0, bc BK369 1, bc BK369 2⟩ (fun hHeld => ?_)
             clear hK K
             refine norm_ (a' := ?_) ?_ ?_
             rotate_left
             ·show Act.put _ (some 9) _ = _
              simp only [Act.put, List.setIfInBounds_toArray, List.set_cons_zero, List.set_cons_succ, i64_w, i32_w]
              rfl
             exact norm_ (by simp only [putAll, Act.put, List.setIfInBounds_toArray, List.set_cons_zero, List.set_cons_succ] <;> rfl) (hJ8 (gb382) _ ⟨hHeld, BK367.out, BK368.out, BK369.out, BK382.out, GW382.out, GE382.out, NB367_382.out, NB382_367.out, NB368_382.out, NB382_368.out, NB369_382.out, NB382_369.out, HB.out⟩)
           ·skip
            rintro gb382 w58 ⟨hS_, h0_, h1_, h2_, h3_, h4_, h5_, h6_, h7_, h8_, h9_, h10_, h11_, h12_⟩
            have n0_ := Aside0.mk h0_
            have n1_ := Aside0.mk h1_
            have n2_ := Aside0.mk h2_
            have n3_ := Aside0.mk h3_
            have n4_ := Aside0.mk h4_
            have n5_ := Aside0.mk h5_
            have n6_ := Aside0.mk h6_
            have n7_ := Aside0.mk h7_
            have n8_ := Aside0.mk h8_
            have n9_ := Aside0.mk h9_
            have n10_ := Aside0.mk h10_
            have n11_ := Aside0.mk h11_
            have n12_ := Aside0.mk h12_
            clear BK367
            clear BK368
            clear BK369
            clear HB
            clear h0_ h1_ h2_ h3_ h4_ h5_ h6_ h7_ h8_ h9_ h10_ h11_ h12_
            have BK367 := n0_
            have BK368 := n1_
            have BK369 := n2_
            have BK382 := n3_
            have GW382 := n4_
            have GE382 := n5_
            have NB367_382 := n6_
            have NB382_367 := n7_
            have NB368_382 := n8_
            have NB382_368 := n9_
            have NB369_382 := n10_
            have NB382_369 := n11_
            have HB := n12_
            clear n0_ n1_ n2_ n3_ n4_ n5_ n6_ n7_ n8_ n9_ n10_ n11_ n12_
            have hHeld : u5_S0 a0_0 a0_1 a0_2 a1_0 a1_1 a1_2 a2_0 a2_1 a2_2 gb367 gb368 gb369 w58 := hS_
            refine norm_ (a' := ?_) ?_ ?_
            rotate_left
            ·simp only [putAll, Act.put, List.setIfInBounds_toArray, List.set_cons_zero, List.set_cons_succ]
             rfl
            refine one_ (i := 1) (N := some 15) #[true, true, true, false, true, false, true, false, true, false] rfl rfl (one_of HT_.out (by kernel_rfl)) (by decide) (fun K hK => ?_)
            refine goes_ Tryd.func16 (by kernel_rfl) rfl #[.agg #[.int .u64 a0_0, .int .u64 a0_1, .bool a0_2]] (by rfl) rfl rfl (by (try simp only [List.map_toArray, List.map_cons, List.map_nil]); first | done | rfl | (simp only [List.length_drop, List.length_take]; rfl)) ?_
            with_reducible refine (laws_toPoint.calls a0_0 a0_1 a0_2 t370 t371 t372 _ A9.out).mono ?_
            rintro e w59 ⟨rfl, hb⟩
            refine ⟨_, rfl, ?_⟩
            have n0_ := bkB BK367 hb
            have n1_ := bkB BK368 hb
            have n2_ := bkB BK369 hb
            have n3_ := bkB BK382 hb
            have n4_ := hbB HB hb
            clear BK367
            clear BK368
            clear BK369
            clear BK382
            clear HB
            have BK367 := n0_
            have BK368 := n1_
            have BK369 := n2_
            have BK382 := n3_
            have HB := n4_
            clear n0_ n1_ n2_ n3_ n4_
            (try clear hb)
            skip
            skip
            skip
            refine hK.out _ _ ⟨bc BK367 0, bc BK367 1, bc BK367 2, bc BK368 0, bc BK368 1, bc BK368 2, bc BK369 0, bc BK369 1, bc BK369 2⟩ (fun hHeld => ?_)
            clear hK K
            refine norm_ (a' := ?_) ?_ ?_
            rotate_left
            ·show Act.put _ (some 15) _ = _
             simp only [Act.put, List.setIfInBounds_toArray, List.set_cons_zero, List.set_cons_succ, i64_w, i32_w]
             rfl
            exact norm_ (by simp only [putAll, Act.put, List.setIfInBounds_toArray, List.set_cons_zero, List.set_cons_succ] <;> rfl) (hJ1_8 (gb382) _ ⟨hHeld, BK367.out, BK368.out, BK369.out, BK382.out, GW382.out, GE382.out, NB367_382.out, NB382_367.out, NB368_382.out, NB382_368.out, NB369_382.out, NB382_369.out, HB.out⟩)
          ·skip
           rintro _ w58 ⟨hS_, h0_, h1_, h2_, h3_⟩
           have n0_ := Aside0.mk h0_
           have n1_ := Aside0.mk h1_
           have n2_ := Aside0.mk h2_
           have n3_ := Aside0.mk h3_
           clear BK367
           clear BK368
           clear BK369
           clear HB
           clear h0_ h1_ h2_ h3_
           have BK367 := n0_
           have BK368 := n1_
           have BK369 := n2_
           have HB := n3_
           clear n0_ n1_ n2_ n3_
           have hHeld : u5_S0 a0_0 a0_1 a0_2 a1_0 a1_1 a1_2 a2_0 a2_1 a2_2 gb367 gb368 gb369 w58 := hS_
           refine norm_ (a' := ?_) ?_ ?_
           rotate_left
           ·simp only [putAll, Act.put, List.setIfInBounds_toArray, List.set_cons_zero, List.set_cons_succ]
            rfl
           refine two_ (i := 3) (j := 8) (Ni := some 17) (Nj := some 9) #[true, true, true, true, true, false, true, false, false, false] #[true, true, true, false, true, false, true, false, true, false] rfl rfl rfl rfl (two_of HT_.out (by kernel_rfl)) (by decide) (by decide) (fun K hK => ?_) (fun K hK => ?_)
           ·skip
            refine goes_ Tryd.func16 (by kernel_rfl) rfl #[.agg #[.int .u64 a1_0, .int .u64 a1_1, .bool a1_2]] (by rfl) rfl rfl (by (try simp only [List.map_toArray, List.map_cons, List.map_nil]); first | done | rfl | (simp only [List.length_drop, List.length_take]; rfl)) ?_
            with_reducible refine (laws_toPoint.calls a1_0 a1_1 a1_2 t373 t374 t375 _ A10.out).mono ?_
            rintro e w59 ⟨rfl, hb⟩
            refine ⟨_, rfl, ?_⟩
            have n0_ := bkB BK367 hb
            have n1_ := bkB BK368 hb
            have n2_ := bkB BK369 hb
            have n3_ := hbB HB hb
            clear BK367
            clear BK368
            clear BK369
            clear HB
            have BK367 := n0_
            have BK368 := n1_
            have BK369 := n2_
            have HB := n3_
            clear n0_ n1_ n2_ n3_
            (try clear hb)
            skip
            skip
            skip
            refine hK.out _ _ ⟨bc BK367 0, bc BK367 1, bc BK367 2, bc BK368 0, bc BK368 1, bc BK368 2, bc BK369 0, bc BK369 1, bc BK369 2⟩ (fun hHeld => ?_)
            clear hK K
            refine norm_ (a' := ?_) ?_ ?_
            rotate_left
            ·show Act.put _ (some 17) _ = _
             simp only [Act.put, List.setIfInBounds_toArray, List.set_cons_zero, List.set_cons_succ, i64_w, i32_w]
             rfl
            exact norm_ (by simp only [putAll, Act.put, List.setIfInBounds_toArray, List.set_cons_zero, List.set_cons_succ] <;> rfl) (hJ1_3 () _ ⟨hHeld, BK367.out, BK368.out, BK369.out, HB.out⟩)
           ·skip
            refine box_step ?hg (N := 9) ?hd (cs := #[.string (⟨#[]⟩ : ByteArray), .string (⟨#[]⟩ : ByteArray), .string (⟨#[]⟩ : ByteArray)]) (t := 41) ?hr ?_; (case hd => rfl); (case hg => rfl); (case hr => go_simp)
            intro gb382 hg w59 hbox hb
            have n0_ := bkB BK367 hb
            have n1_ := bkB BK368 hb
            have n2_ := bkB BK369 hb
            have n3_ := hbB HB hb
            have n4_ := Aside0.mk (hbox)
            have n5_ := geA HB hg
            have n6_ := geA HB hg
            have n7_ := neA BK367 hg
            have n8_ := neB BK367 hg
            have n9_ := neA BK368 hg
            have n10_ := neB BK368 hg
            have n11_ := neA BK369 hg
            have n12_ := neB BK369 hg
            clear BK367
            clear BK368
            clear BK369
            clear HB
            have BK367 := n0_
            have BK368 := n1_
            have BK369 := n2_
            have HB := n3_
            have BK382 := n4_
            have GW382 := n5_
            have GE382 := n6_
            have NB367_382 := n7_
            have NB382_367 := n8_
            have NB368_382 := n9_
            have NB382_368 := n10_
            have NB369_382 := n11_
            have NB382_369 := n12_
            clear n0_ n1_ n2_ n3_ n4_ n5_ n6_ n7_ n8_ n9_ n10_ n11_ n12_
            clear hb hbox hg
            refine hK.out _ _ ⟨bc BK367 0, bc BK367 1, bc BK367 2, bc BK368 0, bc BK368 1, bc BK368 2, bc BK369 0, bc BK369 1, bc BK369 2⟩ (fun hHeld => ?_)
            clear hK K
            refine norm_ (a' := ?_) ?_ ?_
            rotate_left
            ·show Act.put _ (some 9) _ = _
             simp only [Act.put, List.setIfInBounds_toArray, List.set_cons_zero, List.set_cons_succ, i64_w, i32_w]
             rfl
            exact norm_ (by simp only [putAll, Act.put, List.setIfInBounds_toArray, List.set_cons_zero, List.set_cons_succ] <;> rfl) (hJ1_8 (gb382) _ ⟨hHeld, BK367.out, BK368.out, BK369.out, BK382.out, GW382.out, GE382.out, NB367_382.out, NB382_367.out, NB368_382.out, NB382_368.out, NB369_382.out, NB382_369.out, HB.out⟩)
         ·skip
          rintro gb382 w59 ⟨hS_, h0_, h1_, h2_, h3_, h4_, h5_, h6_, h7_, h8_, h9_, h10_, h11_, h12_⟩
          have n0_ := Aside0.mk h0_
          have n1_ := Aside0.mk h1_
          have n2_ := Aside0.mk h2_
          have n3_ := Aside0.mk h3_
          have n4_ := Aside0.mk h4_
          have n5_ := Aside0.mk h5_
          have n6_ := Aside0.mk h6_
          have n7_ := Aside0.mk h7_
          have n8_ := Aside0.mk h8_
          have n9_ := Aside0.mk h9_
          have n10_ := Aside0.mk h10_
          have n11_ := Aside0.mk h11_
          have n12_ := Aside0.mk h12_
          clear BK367
          clear BK368
          clear BK369
          clear HB
          clear h0_ h1_ h2_ h3_ h4_ h5_ h6_ h7_ h8_ h9_ h10_ h11_ h12_
          have BK367 := n0_
          have BK368 := n1_
          have BK369 := n2_
          have BK382 := n3_
          have GW382 := n4_
          have GE382 := n5_
          have NB367_382 := n6_
          have NB382_367 := n7_
          have NB368_382 := n8_
          have NB382_368 := n9_
          have NB369_382 := n10_
          have NB382_369 := n11_
          have HB := n12_
          clear n0_ n1_ n2_ n3_ n4_ n5_ n6_ n7_ n8_ n9_ n10_ n11_ n12_
          have hHeld : u5_S0 a0_0 a0_1 a0_2 a1_0 a1_1 a1_2 a2_0 a2_1 a2_2 gb367 gb368 gb369 w59 := hS_
          refine norm_ (a' := ?_) ?_ ?_
          rotate_left
          ·simp only [putAll, Act.put, List.setIfInBounds_toArray, List.set_cons_zero, List.set_cons_succ]
           rfl
          refine one_ (i := 3) (N := some 17) #[true, true, true, true, true, false, true, false, true, false] rfl rfl (one_of HT_.out (by kernel_rfl)) (by decide) (fun K hK => ?_)
          refine goes_ Tryd.func16 (by kernel_rfl) rfl #[.agg #[.int .u64 a1_0, .int .u64 a1_1, .bool a1_2]] (by rfl) rfl rfl (by (try simp only [List.map_toArray, List.map_cons, List.map_nil]); first | done | rfl | (simp only [List.length_drop, List.length_take]; rfl)) ?_
          with_reducible refine (laws_toPoint.calls a1_0 a1_1 a1_2 t373 t374 t375 _ A10.out).mono ?_
          rintro e w60 ⟨rfl, hb⟩
          refine ⟨_, rfl, ?_⟩
          have n0_ := bkB BK367 hb
          have n1_ := bkB BK368 hb
          have n2_ := bkB BK369 hb
          have n3_ := bkB BK382 hb
          have n4_ := hbB HB hb
          clear BK367
          clear BK368
          clear BK369
          clear BK382
          clear HB
          have BK367 := n0_
          have BK368 := n1_
          have BK369 := n2_
          have BK382 := n3_
          have HB := n4_
          clear n0_ n1_ n2_ n3_ n4_
          (try clear hb)
          skip
          skip
          skip
          refine hK.out _ _ ⟨bc BK367 0, bc BK367 1, bc BK367 2, bc BK368 0, bc BK368 1, bc BK368 2, bc BK369 0, bc BK369 1, bc BK369 2⟩ (fun hHeld => ?_)
          clear hK K
          refine norm_ (a' := ?_) ?_ ?_
          rotate_left
          ·show Act.put _ (some 17) _ = _
           simp only [Act.put, List.setIfInBounds_toArray, List.set_cons_zero, List.set_cons_succ, i64_w, i32_w]
           rfl
          exact norm_ (by simp only [putAll, Act.put, List.setIfInBounds_toArray, List.set_cons_zero, List.set_cons_succ] <;> rfl) (hJ1_3_8 (gb382) _ ⟨hHeld, BK367.out, BK368.out, BK369.out, BK382.out, GW382.out, GE382.out, NB367_382.out, NB382_367.out, NB368_382.out, NB382_368.out, NB369_382.out, NB382_369.out, HB.out⟩)
        ·skip
         rintro _ w59 ⟨hS_, h0_, h1_, h2_, h3_⟩
         have n0_ := Aside0.mk h0_
         have n1_ := Aside0.mk h1_
         have n2_ := Aside0.mk h2_
         have n3_ := Aside0.mk h3_
         clear BK367
         clear BK368
         clear BK369
         clear HB
         clear h0_ h1_ h2_ h3_
         have BK367 := n0_
         have BK368 := n1_
         have BK369 := n2_
         have HB := n3_
         clear n0_ n1_ n2_ n3_
         have hHeld : u5_S0 a0_0 a0_1 a0_2 a1_0 a1_1 a1_2 a2_0 a2_1 a2_2 gb367 gb368 gb369 w59 := hS_
         refine norm_ (a' := ?_) ?_ ?_
         rotate_left
         ·simp only [putAll, Act.put, List.setIfInBounds_toArray, List.set_cons_zero, List.set_cons_succ]
          rfl
         refine two_ (i := 5) (j := 8) (Ni := some 19) (Nj := some 9) #[true, true, true, true, true, true, true, false, false, false] #[true, true, true, true, true, false, true, false, true, false] rfl rfl rfl rfl (two_of HT_.out (by kernel_rfl)) (by decide) (by decide) (fun K hK => ?_) (fun K hK => ?_)
         ·skip
          refine goes_ Tryd.func16 (by kernel_rfl) rfl #[.agg #[.int .u64 a2_0, .int .u64 a2_1, .bool a2_2]] (by rfl) rfl rfl (by (try simp only [List.map_toArray, List.map_cons, List.map_nil]); first | done | rfl | (simp only [List.length_drop, List.length_take]; rfl)) ?_
          with_reducible refine (laws_toPoint.calls a2_0 a2_1 a2_2 t376 t377 t378 _ A11.out).mono ?_
          rintro e w60 ⟨rfl, hb⟩
          refine ⟨_, rfl, ?_⟩
          have n0_ := bkB BK367 hb
          have n1_ := bkB BK368 hb
          have n2_ := bkB BK369 hb
          have n3_ := hbB HB hb
          clear BK367
          clear BK368
          clear BK369
          clear HB
          have BK367 := n0_
          have BK368 := n1_
          have BK369 := n2_
          have HB := n3_
          clear n0_ n1_ n2_ n3_
          (try clear hb)
          skip
          skip
          skip
          refine hK.out _ _ ⟨bc BK367 0, bc BK367 1, bc BK367 2, bc BK368 0, bc BK368 1, bc BK368 2, bc BK369 0, bc BK369 1, bc BK369 2⟩ (fun hHeld => ?_)
          clear hK K
          refine norm_ (a' := ?_) ?_ ?_
          rotate_left
          ·show Act.put _ (some 19) _ = _
           simp only [Act.put, List.setIfInBounds_toArray, List.set_cons_zero, List.set_cons_succ, i64_w, i32_w]
           rfl
          exact norm_ (by simp only [putAll, Act.put, List.setIfInBounds_toArray, List.set_cons_zero, List.set_cons_succ] <;> rfl) (hJ1_3_5 () _ ⟨hHeld, BK367.out, BK368.out, BK369.out, HB.out⟩)
         ·skip
          refine box_step ?hg (N := 9) ?hd (cs := #[.string (⟨#[]⟩ : ByteArray), .string (⟨#[]⟩ : ByteArray), .string (⟨#[]⟩ : ByteArray)]) (t := 41) ?hr ?_; (case hd => rfl); (case hg => rfl); (case hr => go_simp)
          intro gb382 hg w60 hbox hb
          have n0_ := bkB BK367 hb
          have n1_ := bkB BK368 hb
          have n2_ := bkB BK369 hb
          have n3_ := hbB HB hb
          have n4_ := Aside0.mk (hbox)
          have n5_ := geA HB hg
          have n6_ := geA HB hg
          have n7_ := neA BK367 hg
          have n8_ := neB BK367 hg
          have n9_ := neA BK368 hg
          have n10_ := neB BK368 hg
          have n11_ := neA BK369 hg
          have n12_ := neB BK369 hg
          clear BK367
          clear BK368
          clear BK369
          clear HB
          have BK367 := n0_
          have BK368 := n1_
          have BK369 := n2_
          have HB := n3_
          have BK382 := n4_
          have GW382 := n5_
          have GE382 := n6_
          have NB367_382 := n7_
          have NB382_367 := n8_
          have NB368_382 := n9_
          have NB382_368 := n10_
          have NB369_382 := n11_
          have NB382_369 := n12_
          clear n0_ n1_ n2_ n3_ n4_ n5_ n6_ n7_ n8_ n9_ n10_ n11_ n12_
          clear hb hbox hg
          refine hK.out _ _ ⟨bc BK367 0, bc BK367 1, bc BK367 2, bc BK368 0, bc BK368 1, bc BK368 2, bc BK369 0, bc BK369 1, bc BK369 2⟩ (fun hHeld => ?_)
          clear hK K
          refine norm_ (a' := ?_) ?_ ?_
          rotate_left
          ·show Act.put _ (some 9) _ = _
           simp only [Act.put, List.setIfInBounds_toArray, List.set_cons_zero, List.set_cons_succ, i64_w, i32_w]
           rfl
          exact norm_ (by simp only [putAll, Act.put, List.setIfInBounds_toArray, List.set_cons_zero, List.set_cons_succ] <;> rfl) (hJ1_3_8 (gb382) _ ⟨hHeld, BK367.out, BK368.out, BK369.out, BK382.out, GW382.out, GE382.out, NB367_382.out, NB382_367.out, NB368_382.out, NB382_368.out, NB369_382.out, NB382_369.out, HB.out⟩)
       ·skip
        rintro gb382 w60 ⟨hS_, h0_, h1_, h2_, h3_, h4_, h5_, h6_, h7_, h8_, h9_, h10_, h11_, h12_⟩
        have n0_ := Aside0.mk h0_
        have n1_ := Aside0.mk h1_
        have n2_ := Aside0.mk h2_
        have n3_ := Aside0.mk h3_
        have n4_ := Aside0.mk h4_
        have n5_ := Aside0.mk h5_
        have n6_ := Aside0.mk h6_
        have n7_ := Aside0.mk h7_
        have n8_ := Aside0.mk h8_
        have n9_ := Aside0.mk h9_
        have n10_ := Aside0.mk h10_
        have n11_ := Aside0.mk h11_
        have n12_ := Aside0.mk h12_
        clear BK367
        clear BK368
        clear BK369
        clear HB
        clear h0_ h1_ h2_ h3_ h4_ h5_ h6_ h7_ h8_ h9_ h10_ h11_ h12_
        have BK367 := n0_
        have BK368 := n1_
        have BK369 := n2_
        have BK382 := n3_
        have GW382 := n4_
        have GE382 := n5_
        have NB367_382 := n6_
        have NB382_367 := n7_
        have NB368_382 := n8_
        have NB382_368 := n9_
        have NB369_382 := n10_
        have NB382_369 := n11_
        have HB := n12_
        clear n0_ n1_ n2_ n3_ n4_ n5_ n6_ n7_ n8_ n9_ n10_ n11_ n12_
        have hHeld : u5_S0 a0_0 a0_1 a0_2 a1_0 a1_1 a1_2 a2_0 a2_1 a2_2 gb367 gb368 gb369 w60 := hS_
        refine norm_ (a' := ?_) ?_ ?_
        rotate_left
        ·simp only [putAll, Act.put, List.setIfInBounds_toArray, List.set_cons_zero, List.set_cons_succ]
         rfl
        refine one_ (i := 5) (N := some 19) #[true, true, true, true, true, true, true, false, true, false] rfl rfl (one_of HT_.out (by kernel_rfl)) (by decide) (fun K hK => ?_)
        refine goes_ Tryd.func16 (by kernel_rfl) rfl #[.agg #[.int .u64 a2_0, .int .u64 a2_1, .bool a2_2]] (by rfl) rfl rfl (by (try simp only [List.map_toArray, List.map_cons, List.map_nil]); first | done | rfl | (simp only [List.length_drop, List.length_take]; rfl)) ?_
        with_reducible refine (laws_toPoint.calls a2_0 a2_1 a2_2 t376 t377 t378 _ A11.out).mono ?_
        rintro e w61 ⟨rfl, hb⟩
        refine ⟨_, rfl, ?_⟩
        have n0_ := bkB BK367 hb
        have n1_ := bkB BK368 hb
        have n2_ := bkB BK369 hb
        have n3_ := bkB BK382 hb
        have n4_ := hbB HB hb
        clear BK367
        clear BK368
        clear BK369
        clear BK382
        clear HB
        have BK367 := n0_
        have BK368 := n1_
        have BK369 := n2_
        have BK382 := n3_
        have HB := n4_
        clear n0_ n1_ n2_ n3_ n4_
        (try clear hb)
        skip
        skip
        skip
        refine hK.out _ _ ⟨bc BK367 0, bc BK367 1, bc BK367 2, bc BK368 0, bc BK368 1, bc BK368 2, bc BK369 0, bc BK369 1, bc BK369 2⟩ (fun hHeld => ?_)
        clear hK K
        refine norm_ (a' := ?_) ?_ ?_
        rotate_left
        ·show Act.put _ (some 19) _ = _
         simp only [Act.put, List.setIfInBounds_toArray, List.set_cons_zero, List.set_cons_succ, i64_w, i32_w]
         rfl
        exact norm_ (by simp only [putAll, Act.put, List.setIfInBounds_toArray, List.set_cons_zero, List.set_cons_succ] <;> rfl) (hJ1_3_5_8 (gb382) _ ⟨hHeld, BK367.out, BK368.out, BK369.out, BK382.out, GW382.out, GE382.out, NB367_382.out, NB382_367.out, NB368_382.out, NB382_368.out, NB369_382.out, NB382_369.out, HB.out⟩)
      ·skip
       rintro _ w60 ⟨hS_, h0_, h1_, h2_, h3_⟩
       have n0_ := Aside0.mk h0_
       have n1_ := Aside0.mk h1_
       have n2_ := Aside0.mk h2_
       have n3_ := Aside0.mk h3_
       clear BK367
       clear BK368
       clear BK369
       clear HB
       clear h0_ h1_ h2_ h3_
       have BK367 := n0_
       have BK368 := n1_
       have BK369 := n2_
       have HB := n3_
       clear n0_ n1_ n2_ n3_
       have hHeld : u5_S0 a0_0 a0_1 a0_2 a1_0 a1_1 a1_2 a2_0 a2_1 a2_2 gb367 gb368 gb369 w60 := hS_
       refine norm_ (a' := ?_) ?_ ?_
       rotate_left
       ·simp only [putAll, Act.put, List.setIfInBounds_toArray, List.set_cons_zero, List.set_cons_succ]
        rfl
       refine two_ (i := 7) (j := 8) (Ni := some 21) (Nj := some 9) #[true, true, true, true, true, true, true, true, false, false] #[true, true, true, true, true, true, true, false, true, false] rfl rfl rfl rfl (two_of HT_.out (by kernel_rfl)) (by decide) (by decide) (fun K hK => ?_) (fun K hK => ?_)
       ·skip
        refine goes_ Tryd.func15 (by kernel_rfl) rfl #[.agg #[.int .u64 t370, .int .u64 t371, .bool t372], .agg #[.int .u64 t373, .int .u64 t374, .bool t375], .agg #[.int .u64 t376, .int .u64 t377, .bool t378], .string a3] (by rfl) rfl rfl (by (try simp only [List.map_toArray, List.map_cons, List.map_nil]); first | done | rfl | (simp only [List.length_drop, List.length_take]; rfl)) ?_
        with_reducible refine (spec_Agree.calls k t370 t371 t372 t373 t374 t375 t376 t377 t378 a3 t379 t380 t381 _ A12.out).mono ?_
        rintro e w61 ⟨rfl, hb⟩
        refine ⟨_, rfl, ?_⟩
        have n0_ := bkB BK367 hb
        have n1_ := bkB BK368 hb
        have n2_ := bkB BK369 hb
        have n3_ := hbB HB hb
        clear BK367
        clear BK368
        clear BK369
        clear HB
        have BK367 := n0_
        have BK368 := n1_
        have BK369 := n2_
        have HB := n3_
        clear n0_ n1_ n2_ n3_
        (try clear hb)
        skip
        skip
        skip
        refine hK.out _ _ ⟨bc BK367 0, bc BK367 1, bc BK367 2, bc BK368 0, bc BK368 1, bc BK368 2, bc BK369 0, bc BK369 1, bc BK369 2⟩ (fun hHeld => ?_)
        clear hK K
        refine norm_ (a' := ?_) ?_ ?_
        rotate_left
        ·show Act.put _ (some 21) _ = _
         simp only [Act.put, List.setIfInBounds_toArray, List.set_cons_zero, List.set_cons_succ, i64_w, i32_w]
         rfl
        exact norm_ (by simp only [putAll, Act.put, List.setIfInBounds_toArray, List.set_cons_zero, List.set_cons_succ] <;> rfl) (hJ1_3_5_7 () _ ⟨hHeld, BK367.out, BK368.out, BK369.out, HB.out⟩)
       ·skip
        refine box_step ?hg (N := 9) ?hd (cs := #[.string (⟨#[]⟩ : ByteArray), .string (⟨#[]⟩ : ByteArray), .string (⟨#[]⟩ : ByteArray)]) (t := 41) ?hr ?_; (case hd => rfl); (case hg => rfl); (case hr => go_simp)
        intro gb382 hg w61 hbox hb
        have n0_ := bkB BK367 hb
        have n1_ := bkB BK368 hb
        have n2_ := bkB BK369 hb
        have n3_ := hbB HB hb
        have n4_ := Aside0.mk (hbox)
        have n5_ := geA HB hg
        have n6_ := geA HB hg
        have n7_ := neA BK367 hg
        have n8_ := neB BK367 hg
        have n9_ := neA BK368 hg
        have n10_ := neB BK368 hg
        have n11_ := neA BK369 hg
        have n12_ := neB BK369 hg
        clear BK367
        clear BK368
        clear BK369
        clear HB
        have BK367 := n0_
        have BK368 := n1_
        have BK369 := n2_
        have HB := n3_
        have BK382 := n4_
        have GW382 := n5_
        have GE382 := n6_
        have NB367_382 := n7_
        have NB382_367 := n8_
        have NB368_382 := n9_
        have NB382_368 := n10_
        have NB369_382 := n11_
        have NB382_369 := n12_
        clear n0_ n1_ n2_ n3_ n4_ n5_ n6_ n7_ n8_ n9_ n10_ n11_ n12_
        clear hb hbox hg
        refine hK.out _ _ ⟨bc BK367 0, bc BK367 1, bc BK367 2, bc BK368 0, bc BK368 1, bc BK368 2, bc BK369 0, bc BK369 1, bc BK369 2⟩ (fun hHeld => ?_)
        clear hK K
        refine norm_ (a' := ?_) ?_ ?_
        rotate_left
        ·show Act.put _ (some 9) _ = _
         simp only [Act.put, List.setIfInBounds_toArray, List.set_cons_zero, List.set_cons_succ, i64_w, i32_w]
         rfl
        exact norm_ (by simp only [putAll, Act.put, List.setIfInBounds_toArray, List.set_cons_zero, List.set_cons_succ] <;> rfl) (hJ1_3_5_8 (gb382) _ ⟨hHeld, BK367.out, BK368.out, BK369.out, BK382.out, GW382.out, GE382.out, NB367_382.out, NB382_367.out, NB368_382.out, NB382_368.out, NB369_382.out, NB382_369.out, HB.out⟩)
     ·skip
      rintro gb382 w61 ⟨hS_, h0_, h1_, h2_, h3_, h4_, h5_, h6_, h7_, h8_, h9_, h10_, h11_, h12_⟩
      have n0_ := Aside0.mk h0_
      have n1_ := Aside0.mk h1_
      have n2_ := Aside0.mk h2_
      have n3_ := Aside0.mk h3_
      have n4_ := Aside0.mk h4_
      have n5_ := Aside0.mk h5_
      have n6_ := Aside0.mk h6_
      have n7_ := Aside0.mk h7_
      have n8_ := Aside0.mk h8_
      have n9_ := Aside0.mk h9_
      have n10_ := Aside0.mk h10_
      have n11_ := Aside0.mk h11_
      have n12_ := Aside0.mk h12_
      clear BK367
      clear BK368
      clear BK369
      clear HB
      clear h0_ h1_ h2_ h3_ h4_ h5_ h6_ h7_ h8_ h9_ h10_ h11_ h12_
      have BK367 := n0_
      have BK368 := n1_
      have BK369 := n2_
      have BK382 := n3_
      have GW382 := n4_
      have GE382 := n5_
      have NB367_382 := n6_
      have NB382_367 := n7_
      have NB368_382 := n8_
      have NB382_368 := n9_
      have NB369_382 := n10_
      have NB382_369 := n11_
      have HB := n12_
      clear n0_ n1_ n2_ n3_ n4_ n5_ n6_ n7_ n8_ n9_ n10_ n11_ n12_
      have hHeld : u5_S0 a0_0 a0_1 a0_2 a1_0 a1_1 a1_2 a2_0 a2_1 a2_2 gb367 gb368 gb369 w61 := hS_
      refine norm_ (a' := ?_) ?_ ?_
      rotate_left
      ·simp only [putAll, Act.put, List.setIfInBounds_toArray, List.set_cons_zero, List.set_cons_succ]
       rfl
      refine one_ (i := 7) (N := some 21) #[true, true, true, true, true, true, true, true, true, false] rfl rfl (one_of HT_.out (by kernel_rfl)) (by decide) (fun K hK => ?_)
      refine goes_ Tryd.func15 (by kernel_rfl) rfl #[.agg #[.int .u64 t370, .int .u64 t371, .bool t372], .agg #[.int .u64 t373, .int .u64 t374, .bool t375], .agg #[.int .u64 t376, .int .u64 t377, .bool t378], .string a3] (by rfl) rfl rfl (by (try simp only [List.map_toArray, List.map_cons, List.map_nil]); first | done | rfl | (simp only [List.length_drop, List.length_take]; rfl)) ?_
      with_reducible refine (spec_Agree.calls k t370 t371 t372 t373 t374 t375 t376 t377 t378 a3 t379 t380 t381 _ A12.out).mono ?_
      rintro e w62 ⟨rfl, hb⟩
      refine ⟨_, rfl, ?_⟩
      have n0_ := bkB BK367 hb
      have n1_ := bkB BK368 hb
      have n2_ := bkB BK369 hb
      have n3_ := bkB BK382 hb
      have n4_ := hbB HB hb
      clear BK367
      clear BK368
      clear BK369
      clear BK382
      clear HB
      have BK367 := n0_
      have BK368 := n1_
      have BK369 := n2_
      have BK382 := n3_
      have HB := n4_
      clear n0_ n1_ n2_ n3_ n4_
      (try clear hb)
      skip
      skip
      skip
      refine hK.out _ _ ⟨bc BK367 0, bc BK367 1, bc BK367 2, bc BK368 0, bc BK368 1, bc BK368 2, bc BK369 0, bc BK369 1, bc BK369 2⟩ (fun hHeld => ?_)
      clear hK K
      refine norm_ (a' := ?_) ?_ ?_
      rotate_left
      ·show Act.put _ (some 21) _ = _
       simp only [Act.put, List.setIfInBounds_toArray, List.set_cons_zero, List.set_cons_succ, i64_w, i32_w]
       rfl
      exact norm_ (by simp only [putAll, Act.put, List.setIfInBounds_toArray, List.set_cons_zero, List.set_cons_succ] <;> rfl) (hJ1_3_5_7_8 (gb382) _ ⟨hHeld, BK367.out, BK368.out, BK369.out, BK382.out, GW382.out, GE382.out, NB367_382.out, NB382_367.out, NB368_382.out, NB382_368.out, NB369_382.out, NB382_369.out, HB.out⟩)
    ·skip
     rintro _ w61 ⟨hS_, h0_, h1_, h2_, h3_⟩
     have n0_ := Aside0.mk h0_
     have n1_ := Aside0.mk h1_
     have n2_ := Aside0.mk h2_
     have n3_ := Aside0.mk h3_
     clear BK367
     clear BK368
     clear BK369
     clear HB
     clear h0_ h1_ h2_ h3_
     have BK367 := n0_
     have BK368 := n1_
     have BK369 := n2_
     have HB := n3_
     clear n0_ n1_ n2_ n3_
     have hHeld : u5_S0 a0_0 a0_1 a0_2 a1_0 a1_1 a1_2 a2_0 a2_1 a2_2 gb367 gb368 gb369 w61 := hS_
     refine norm_ (a' := ?_) ?_ ?_
     rotate_left
     ·simp only [putAll, Act.put, List.setIfInBounds_toArray, List.set_cons_zero, List.set_cons_succ]
      rfl
     refine one_ (i := 8) (N := some 9) #[true, true, true, true, true, true, true, true, true, false] rfl rfl (one_of HT_.out (by kernel_rfl)) (by decide) (fun K hK => ?_)
     refine box_step ?hg (N := 9) ?hd (cs := #[.string (⟨#[]⟩ : ByteArray), .string (⟨#[]⟩ : ByteArray), .string (⟨#[]⟩ : ByteArray)]) (t := 41) ?hr ?_; (case hd => rfl); (case hg => rfl); (case hr => go_simp)
     intro gb382 hg w62 hbox hb
     have n0_ := bkB BK367 hb
     have n1_ := bkB BK368 hb
     have n2_ := bkB BK369 hb
     have n3_ := hbB HB hb
     have n4_ := Aside0.mk (hbox)
     have n5_ := geA HB hg
     have n6_ := geA HB hg
     have n7_ := neA BK367 hg
     have n8_ := neB BK367 hg
     have n9_ := neA BK368 hg
     have n10_ := neB BK368 hg
     have n11_ := neA BK369 hg
     have n12_ := neB BK369 hg
     clear BK367
     clear BK368
     clear BK369
     clear HB
     have BK367 := n0_
     have BK368 := n1_
     have BK369 := n2_
     have HB := n3_
     have BK382 := n4_
     have GW382 := n5_
     have GE382 := n6_
     have NB367_382 := n7_
     have NB382_367 := n8_
     have NB368_382 := n9_
     have NB382_368 := n10_
     have NB369_382 := n11_
     have NB382_369 := n12_
     clear n0_ n1_ n2_ n3_ n4_ n5_ n6_ n7_ n8_ n9_ n10_ n11_ n12_
     clear hb hbox hg
     refine hK.out _ _ ⟨bc BK367 0, bc BK367 1, bc BK367 2, bc BK368 0, bc BK368 1, bc BK368 2, bc BK369 0, bc BK369 1, bc BK369 2⟩ (fun hHeld => ?_)
     clear hK K
     refine norm_ (a' := ?_) ?_ ?_
     rotate_left
     ·show Act.put _ (some 9) _ = _
      simp only [Act.put, List.setIfInBounds_toArray, List.set_cons_zero, List.set_cons_succ, i64_w, i32_w]
      rfl
     exact norm_ (by simp only [putAll, Act.put, List.setIfInBounds_toArray, List.set_cons_zero, List.set_cons_succ] <;> rfl) (hJ1_3_5_7_8 (gb382) _ ⟨hHeld, BK367.out, BK368.out, BK369.out, BK382.out, GW382.out, GE382.out, NB367_382.out, NB382_367.out, NB368_382.out, NB382_368.out, NB369_382.out, NB382_369.out, HB.out⟩)
   rintro gb382 w62 ⟨hS_, h0_, h1_, h2_, h3_, h4_, h5_, h6_, h7_, h8_, h9_, h10_, h11_, h12_⟩
   have n0_ := Aside0.mk h0_
   have n1_ := Aside0.mk h1_
   have n2_ := Aside0.mk h2_
   have n3_ := Aside0.mk h3_
   have n4_ := Aside0.mk h4_
   have n5_ := Aside0.mk h5_
   have n6_ := Aside0.mk h6_
   have n7_ := Aside0.mk h7_
   have n8_ := Aside0.mk h8_
   have n9_ := Aside0.mk h9_
   have n10_ := Aside0.mk h10_
   have n11_ := Aside0.mk h11_
   have n12_ := Aside0.mk h12_
   clear BK367
   clear BK368
   clear BK369
   clear HB
   clear h0_ h1_ h2_ h3_ h4_ h5_ h6_ h7_ h8_ h9_ h10_ h11_ h12_
   have BK367 := n0_
   have BK368 := n1_
   have BK369 := n2_
   have BK382 := n3_
   have GW382 := n4_
   have GE382 := n5_
   have NB367_382 := n6_
   have NB382_367 := n7_
   have NB368_382 := n8_
   have NB382_368 := n9_
   have NB369_382 := n10_
   have NB382_369 := n11_
   have HB := n12_
   clear n0_ n1_ n2_ n3_ n4_ n5_ n6_ n7_ n8_ n9_ n10_ n11_ n12_
   have hHeld : u5_S0 a0_0 a0_1 a0_2 a1_0 a1_1 a1_2 a2_0 a2_1 a2_2 gb367 gb368 gb369 w62 := hS_
   refine norm_ (a' := ?_) ?_ ?_
   rotate_left
   ·simp only [putAll, Act.put, List.setIfInBounds_toArray, List.set_cons_zero, List.set_cons_succ]
    rfl
   refine one_ (i := 9) (N := none) #[true, true, true, true, true, true, true, true, true, true] rfl rfl (one_of HT_.out (by kernel_rfl)) (by decide) (fun K hK => ?_)
   have hs63 : w62.cell? ⟨gb382, 0, none⟩ = some (.string (⟨#[]⟩ : ByteArray)) := bc BK382 0
   have hfs63 := blk_frozen BK382.out 0
   have hns63_0 := NB367_382.out
   have hns63_1 := NB368_382.out
   have hns63_2 := NB369_382.out
   have hms63_0 := NB382_367.out
   have hms63_1 := NB382_368.out
   have hms63_2 := NB382_369.out
   have hs64 : w62.cell? ⟨gb382, 1, none⟩ = some (.string (⟨#[]⟩ : ByteArray)) := bc BK382 1
   have hfs64 := blk_frozen BK382.out 1
   have hns64_0 := NB367_382.out
   have hns64_1 := NB368_382.out
   have hns64_2 := NB369_382.out
   have hms64_0 := NB382_367.out
   have hms64_1 := NB382_368.out
   have hms64_2 := NB382_369.out
   have hs65 : w62.cell? ⟨gb382, 2, none⟩ = some (.string (⟨#[]⟩ : ByteArray)) := bc BK382 2
   have hfs65 := blk_frozen BK382.out 2
   have hns65_0 := NB367_382.out
   have hns65_1 := NB368_382.out
   have hns65_2 := NB369_382.out
   have hms65_0 := NB382_367.out
   have hms65_1 := NB382_368.out
   have hms65_2 := NB382_369.out
   refine skip_ (w1 := ?_) (by rfl) rfl ?_ ?_
   rotate_left
   ·go_simp
    rfl
   refine hK.out _ _ ⟨((cell_far (p := ⟨gb382, _, none⟩) NB367_382.out _).trans (((cell_far (p := ⟨gb382, _, none⟩) NB367_382.out _).trans (((cell_far (p := ⟨gb382, _, none⟩) NB367_382.out _).trans (hHeld.1)))))), ((cell_far (p := ⟨gb382, _, none⟩) NB367_382.out _).trans (((cell_far (p := ⟨gb382, _, none⟩) NB367_382.out _).trans (((cell_far (p := ⟨gb382, _, none⟩) NB367_382.out _).trans (hHeld.2.1)))))), ((cell_far (p := ⟨gb382, _, none⟩) NB367_382.out _).trans (((cell_far (p := ⟨gb382, _, none⟩) NB367_382.out _).trans (((cell_far (p := ⟨gb382, _, none⟩) NB367_382.out _).trans (hHeld.2.2.1)))))), ((cell_far (p := ⟨gb382, _, none⟩) NB368_382.out _).trans (((cell_far (p := ⟨gb382, _, none⟩) NB368_382.out _).trans (((cell_far (p := ⟨gb382, _, none⟩) NB368_382.out _).trans (hHeld.2.2.2.1)))))), ((cell_far (p := ⟨gb382, _, none⟩) NB368_382.out _).trans (((cell_far (p := ⟨gb382, _, none⟩) NB368_382.out _).trans (((cell_far (p := ⟨gb382, _, none⟩) NB368_382.out _).trans (hHeld.2.2.2.2.1)))))), ((cell_far (p := ⟨gb382, _, none⟩) NB368_382.out _).trans (((cell_far (p := ⟨gb382, _, none⟩) NB368_382.out _).trans (((cell_far (p := ⟨gb382, _, none⟩) NB368_382.out _).trans (hHeld.2.2.2.2.2.1)))))), ((cell_far (p := ⟨gb382, _, none⟩) NB369_382.out _).trans (((cell_far (p := ⟨gb382, _, none⟩) NB369_382.out _).trans (((cell_far (p := ⟨gb382, _, none⟩) NB369_382.out _).trans (hHeld.2.2.2.2.2.2.1)))))), ((cell_far (p := ⟨gb382, _, none⟩) NB369_382.out _).trans (((cell_far (p := ⟨gb382, _, none⟩) NB369_382.out _).trans (((cell_far (p := ⟨gb382, _, none⟩) NB369_382.out _).trans (hHeld.2.2.2.2.2.2.2.1)))))), ((cell_far (p := ⟨gb382, _, none⟩) NB369_382.out _).trans (((cell_far (p := ⟨gb382, _, none⟩) NB369_382.out _).trans (((cell_far (p := ⟨gb382, _, none⟩) NB369_382.out _).trans (hHeld.2.2.2.2.2.2.2.2))))))⟩ (fun hHeld => ?_)
   clear hK K
   refine done_ (done_of HT_.out (by kernel_rfl)) ?_
   try go_wp2
   have n0_ : Aside0 ((((w62.setCell ⟨gb382, 0, none⟩ (.string t379)).setCell ⟨gb382, 1, none⟩ (.string t380)).setCell ⟨gb382, 2, none⟩ (.string t381)).heap[gb367]? = some (.cells #[.int .u64 a0_0, .int .u64 a0_1, .bool a0_2] 24 (0, 0))) := ⟨by (with_reducible repeat (first | refine blk_drewN ?_ _ | refine blk_drew ?_ | refine blk_alloc ?_ _)); refine blk_far ?_ NB367_382.out _; (with_reducible repeat (first | refine blk_drewN ?_ _ | refine blk_drew ?_ | refine blk_alloc ?_ _)); refine blk_far ?_ NB367_382.out _; (with_reducible repeat (first | refine blk_drewN ?_ _ | refine blk_drew ?_ | refine blk_alloc ?_ _)); refine blk_far ?_ NB367_382.out _; (with_reducible repeat (first | refine blk_drewN ?_ _ | refine blk_drew ?_ | refine blk_alloc ?_ _)); exact BK367.out⟩
   have n1_ : Aside0 ((((w62.setCell ⟨gb382, 0, none⟩ (.string t379)).setCell ⟨gb382, 1, none⟩ (.string t380)).setCell ⟨gb382, 2, none⟩ (.string t381)).heap[gb368]? = some (.cells #[.int .u64 a1_0, .int .u64 a1_1, .bool a1_2] 24 (0, 0))) := ⟨by (with_reducible repeat (first | refine blk_drewN ?_ _ | refine blk_drew ?_ | refine blk_alloc ?_ _)); refine blk_far ?_ NB368_382.out _; (with_reducible repeat (first | refine blk_drewN ?_ _ | refine blk_drew ?_ | refine blk_alloc ?_ _)); refine blk_far ?_ NB368_382.out _; (with_reducible repeat (first | refine blk_drewN ?_ _ | refine blk_drew ?_ | refine blk_alloc ?_ _)); refine blk_far ?_ NB368_382.out _; (with_reducible repeat (first | refine blk_drewN ?_ _ | refine blk_drew ?_ | refine blk_alloc ?_ _)); exact BK368.out⟩
   have n2_ : Aside0 ((((w62.setCell ⟨gb382, 0, none⟩ (.string t379)).setCell ⟨gb382, 1, none⟩ (.string t380)).setCell ⟨gb382, 2, none⟩ (.string t381)).heap[gb369]? = some (.cells #[.int .u64 a2_0, .int .u64 a2_1, .bool a2_2] 24 (0, 0))) := ⟨by (with_reducible repeat (first | refine blk_drewN ?_ _ | refine blk_drew ?_ | refine blk_alloc ?_ _)); refine blk_far ?_ NB369_382.out _; (with_reducible repeat (first | refine blk_drewN ?_ _ | refine blk_drew ?_ | refine blk_alloc ?_ _)); refine blk_far ?_ NB369_382.out _; (with_reducible repeat (first | refine blk_drewN ?_ _ | refine blk_drew ?_ | refine blk_alloc ?_ _)); refine blk_far ?_ NB369_382.out _; (with_reducible repeat (first | refine blk_drewN ?_ _ | refine blk_drew ?_ | refine blk_alloc ?_ _)); exact BK369.out⟩
   have n3_ : Aside0 ((((w62.setCell ⟨gb382, 0, none⟩ (.string t379)).setCell ⟨gb382, 1, none⟩ (.string t380)).setCell ⟨gb382, 2, none⟩ (.string t381)).heap[gb382]? = some (.cells #[.string t379, .string t380, .string t381] 41 (0, 0))) := ⟨by (with_reducible repeat (first | refine blk_drewN ?_ _ | refine blk_drew ?_ | refine blk_alloc ?_ _)); refine blk_put (cs := #[.string t379, .string t380, .string (⟨#[]⟩ : ByteArray)]) ?_ 2 _ rfl; (with_reducible repeat (first | refine blk_drewN ?_ _ | refine blk_drew ?_ | refine blk_alloc ?_ _)); refine blk_put (cs := #[.string t379, .string (⟨#[]⟩ : ByteArray), .string (⟨#[]⟩ : ByteArray)]) ?_ 1 _ rfl; (with_reducible repeat (first | refine blk_drewN ?_ _ | refine blk_drew ?_ | refine blk_alloc ?_ _)); refine blk_put (cs := #[.string (⟨#[]⟩ : ByteArray), .string (⟨#[]⟩ : ByteArray), .string (⟨#[]⟩ : ByteArray)]) ?_ 0 _ rfl; (with_reducible repeat (first | refine blk_drewN ?_ _ | refine blk_drew ?_ | refine blk_alloc ?_ _)); exact BK382.out⟩
   have n4_ : Aside0 (Below w.heap.size w (((w62.setCell ⟨gb382, 0, none⟩ (.string t379)).setCell ⟨gb382, 1, none⟩ (.string t380)).setCell ⟨gb382, 2, none⟩ (.string t381))) := ⟨by repeat (first | (with_reducible first | exact HB.out | apply below_alloc | apply pw_below_drewN | apply below_drew1 | refine below_set ?_ GE367.out | refine below_set ?_ GE368.out | refine below_set ?_ GE369.out | refine below_set ?_ GE382.out) | exact HB.out)⟩
   (try clear BK367)
   (try clear BK368)
   (try clear BK369)
   (try clear BK382)
   (try clear HB)
   generalize (((w62.setCell ⟨gb382, 0, none⟩ (.string t379)).setCell ⟨gb382, 1, none⟩ (.string t380)).setCell ⟨gb382, 2, none⟩ (.string t381)) = w66 at n0_ n1_ n2_ n3_ n4_ ⊢
   have BK367 := n0_
   have BK368 := n1_
   have BK369 := n2_
   have BK382 := n3_
   have HB := n4_
   clear n0_ n1_ n2_ n3_ n4_
   have n0_ := Aside0.mk (blk_drew BK367.out)
   have n1_ := Aside0.mk (blk_drew BK368.out)
   have n2_ := Aside0.mk (blk_drew BK369.out)
   have n3_ := Aside0.mk (blk_drew BK382.out)
   have n4_ := Aside0.mk (below_drew1 HB.out)
   clear BK367
   clear BK368
   clear BK369
   clear BK382
   clear HB
   have BK367 := n0_
   have BK368 := n1_
   have BK369 := n2_
   have BK382 := n3_
   have HB := n4_
   clear n0_ n1_ n2_ n3_ n4_
   refine start_ (n := 10) (S := fun w' => u5_S0 a0_0 a0_1 a0_2 a1_0 a1_1 a1_2 a2_0 a2_1 a2_2 gb367 gb368 gb369 w') (ds := []) #[false, false, false, false, false, false, false, false, false, false] (by kernel_rfl) rfl rfl ⟨bc BK367 0, bc BK367 1, bc BK367 2, bc BK368 0, bc BK368 1, bc BK368 2, bc BK369 0, bc BK369 1, bc BK369 2⟩ (fun hHeld => ?_); refine with_tabW laws_FnExactAgree.tab4 laws_FnExactAgree.bits4 (fun HT_ HW_ => ?_)
   generalize w66.drew = w67 at BK367 BK368 BK369 BK382 HB hHeld ⊢
   refine pure_ (i := 6) (N := some 28) (v := ?_) (a' := ?_) #[false, false, false, false, false, false, true, false, false, false] rfl rfl (any_of HT_.out (by kernel_rfl)) (fun _ _ _ h => h) (Or.inl ⟨by rfl, ?_⟩) ?_ ?_
   rotate_left
   ·intro w'
    go_simp
    with_reducible rfl
   rotate_left
   ·simp only [Act.put, List.setIfInBounds_toArray, List.set_cons_zero, List.set_cons_succ, i64_w, i32_w]
    rfl
   refine take_ (i := 0) (N := some 22) (v := ?_) (a' := ?_) #[true, false, false, false, false, false, true, false, false, false] rfl rfl (take_ofW HT_.out HW_.out (by kernel_rfl)) (fun _ _ _ h => h) (Or.inl ⟨by rfl, ?_⟩) hHeld ?_ ?_
   rotate_left
   ·rintro w' ⟨s0, s1, s2, s3, s4, s5, s6, s7, s8⟩
    go_simp
    with_reducible rfl
   rotate_left
   ·simp only [Act.put, List.setIfInBounds_toArray, List.set_cons_zero, List.set_cons_succ, i64_w, i32_w]
    rfl
   refine take_ (i := 2) (N := some 24) (v := ?_) (a' := ?_) #[true, false, true, false, false, false, true, false, false, false] rfl rfl (take_ofW HT_.out HW_.out (by kernel_rfl)) (fun _ _ _ h => h) (Or.inl ⟨by rfl, ?_⟩) hHeld ?_ ?_
   rotate_left
   ·rintro w' ⟨s0, s1, s2, s3, s4, s5, s6, s7, s8⟩
    go_simp
    with_reducible rfl
   rotate_left
   ·simp only [Act.put, List.setIfInBounds_toArray, List.set_cons_zero, List.set_cons_succ, i64_w, i32_w]
    rfl
   refine take_ (i := 4) (N := some 26) (v := ?_) (a' := ?_) #[true, false, true, false, true, false, true, false, false, false] rfl rfl (take_ofW HT_.out HW_.out (by kernel_rfl)) (fun _ _ _ h => h) (Or.inl ⟨by rfl, ?_⟩) hHeld ?_ ?_
   rotate_left
   ·rintro w' ⟨s0, s1, s2, s3, s4, s5, s6, s7, s8⟩
    go_simp
    with_reducible rfl
   rotate_left
   ·simp only [Act.put, List.setIfInBounds_toArray, List.set_cons_zero, List.set_cons_succ, i64_w, i32_w]
    rfl
   refine join_ (σ := Nat) 1 #[true, true, true, true, true, true, true, true, true, false] (fun s_ => [(23, .agg #[.int .u64 t383, .int .u64 t384, .bool t385]), (25, .agg #[.int .u64 t386, .int .u64 t387, .bool t388]), (27, .agg #[.int .u64 t389, .int .u64 t390, .bool t391]), (29, .agg #[.string t392, .string t393, .string t394]), (10, .pointer (some ⟨s_, 0, none⟩))]) (fun s_ w' => (u5_S0 a0_0 a0_1 a0_2 a1_0 a1_1 a1_2 a2_0 a2_1 a2_2 gb367 gb368 gb369 w') ∧ (w'.heap[gb367]? = some (.cells #[.int .u64 a0_0, .int .u64 a0_1, .bool a0_2] 24 (0, 0))) ∧ (w'.heap[gb368]? = some (.cells #[.int .u64 a1_0, .int .u64 a1_1, .bool a1_2] 24 (0, 0))) ∧ (w'.heap[gb369]? = some (.cells #[.int .u64 a2_0, .int .u64 a2_1, .bool a2_2] 24 (0, 0))) ∧ (w'.heap[gb382]? = some (.cells #[.string t379, .string t380, .string t381] 41 (0, 0))) ∧ (w'.heap[s_]? = some (.cells #[.string (⟨#[]⟩ : ByteArray), .string (⟨#[]⟩ : ByteArray), .string (⟨#[]⟩ : ByteArray)] 41 (0, 0))) ∧ (w.heap.size ≤ s_) ∧ (w.heap.size ≤ s_) ∧ (gb367 ≠ s_) ∧ (s_ ≠ gb367) ∧ (gb368 ≠ s_) ∧ (s_ ≠ gb368) ∧ (gb369 ≠ s_) ∧ (s_ ≠ gb369) ∧ (gb382 ≠ s_) ∧ (s_ ≠ gb382) ∧ (Below w.heap.size w w')) ?_ ?_
   rotate_left
   ·intro hJ1_3_5_7_8
    refine join_ (σ := Unit) 2 #[true, true, true, true, true, true, true, true, false, false] (fun s_ => [(23, .agg #[.int .u64 t383, .int .u64 t384, .bool t385]), (25, .agg #[.int .u64 t386, .int .u64 t387, .bool t388]), (27, .agg #[.int .u64 t389, .int .u64 t390, .bool t391]), (29, .agg #[.string t392, .string t393, .string t394])]) (fun s_ w' => (u5_S0 a0_0 a0_1 a0_2 a1_0 a1_1 a1_2 a2_0 a2_1 a2_2 gb367 gb368 gb369 w') ∧ (w'.heap[gb367]? = some (.cells #[.int .u64 a0_0, .int .u64 a0_1, .bool a0_2] 24 (0, 0))) ∧ (w'.heap[gb368]? = some (.cells #[.int .u64 a1_0, .int .u64 a1_1, .bool a1_2] 24 (0, 0))) ∧ (w'.heap[gb369]? = some (.cells #[.int .u64 a2_0, .int .u64 a2_1, .bool a2_2] 24 (0, 0))) ∧ (w'.heap[gb382]? = some (.cells #[.string t379, .string t380, .string t381] 41 (0, 0))) ∧ (Below w.heap.size w w')) ?_ ?_
    rotate_left
    ·intro hJ1_3_5_7
     refine join_ (σ := Nat) 2 #[true, true, true, true, true, true, true, false, true, false] (fun s_ => [(23, .agg #[.int .u64 t383, .int .u64 t384, .bool t385]), (25, .agg #[.int .u64 t386, .int .u64 t387, .bool t388]), (27, .agg #[.int .u64 t389, .int .u64 t390, .bool t391]), (10, .pointer (some ⟨s_, 0, none⟩))]) (fun s_ w' => (u5_S0 a0_0 a0_1 a0_2 a1_0 a1_1 a1_2 a2_0 a2_1 a2_2 gb367 gb368 gb369 w') ∧ (w'.heap[gb367]? = some (.cells #[.int .u64 a0_0, .int .u64 a0_1, .bool a0_2] 24 (0, 0))) ∧ (w'.heap[gb368]? = some (.cells #[.int .u64 a1_0, .int .u64 a1_1, .bool a1_2] 24 (0, 0))) ∧ (w'.heap[gb369]? = some (.cells #[.int .u64 a2_0, .int .u64 a2_1, .bool a2_2] 24 (0, 0))) ∧ (w'.heap[gb382]? = some (.cells #[.string t379, .string t380, .string t381] 41 (0, 0))) ∧ (w'.heap[s_]? = some (.cells #[.string (⟨#[]⟩ : ByteArray), .string (⟨#[]⟩ : ByteArray), .string (⟨#[]⟩ : ByteArray)] 41 (0, 0))) ∧ (w.heap.size ≤ s_) ∧ (w.heap.size ≤ s_) ∧ (gb367 ≠ s_) ∧ (s_ ≠ gb367) ∧ (gb368 ≠ s_) ∧ (s_ ≠ gb368) ∧ (gb369 ≠ s_) ∧ (s_ ≠ gb369) ∧ (gb382 ≠ s_) ∧ (s_ ≠ gb382) ∧ (Below w.heap.size w w')) ?_ ?_
     rotate_left
     ·intro hJ1_3_5_8
      refine join_ (σ := Unit) 3 #[true, true, true, true, true, true, true, false, false, false] (fun s_ => [(23, .agg #[.int .u64 t383, .int .u64 t384, .bool t385]), (25, .agg #[.int .u64 t386, .int .u64 t387, .bool t388]), (27, .agg #[.int .u64 t389, .int .u64 t390, .bool t391])]) (fun s_ w' => (u5_S0 a0_0 a0_1 a0_2 a1_0 a1_1 a1_2 a2_0 a2_1 a2_2 gb367 gb368 gb369 w') ∧ (w'.heap[gb367]? = some (.cells #[.int .u64 a0_0, .int .u64 a0_1, .bool a0_2] 24 (0, 0))) ∧ (w'.heap[gb368]? = some (.cells #[.int .u64 a1_0, .int .u64 a1_1, .bool a1_2] 24 (0, 0))) ∧ (w'.heap[gb369]? = some (.cells #[.int .u64 a2_0, .int .u64 a2_1, .bool a2_2] 24 (0, 0))) ∧ (w'.heap[gb382]? = some (.cells #[.string t379, .string t380, .string t381] 41 (0, 0))) ∧ (Below w.heap.size w w')) ?_ ?_
      rotate_left
      ·intro hJ1_3_5
       refine join_ (σ := Nat) 3 #[true, true, true, true, true, false, true, false, true, false] (fun s_ => [(23, .agg #[.int .u64 t383, .int .u64 t384, .bool t385]), (25, .agg #[.int .u64 t386, .int .u64 t387, .bool t388]), (10, .pointer (some ⟨s_, 0, none⟩))]) (fun s_ w' => (u5_S0 a0_0 a0_1 a0_2 a1_0 a1_1 a1_2 a2_0 a2_1 a2_2 gb367 gb368 gb369 w') ∧ (w'.heap[gb367]? = some (.cells #[.int .u64 a0_0, .int .u64 a0_1, .bool a0_2] 24 (0, 0))) ∧ (w'.heap[gb368]? = some (.cells #[.int .u64 a1_0, .int .u64 a1_1, .bool a1_2] 24 (0, 0))) ∧ (w'.heap[gb369]? = some (.cells #[.int .u64 a2_0, .int .u64 a2_1, .bool a2_2] 24 (0, 0))) ∧ (w'.heap[gb382]? = some (.cells #[.string t379, .string t380, .string t381] 41 (0, 0))) ∧ (w'.heap[s_]? = some (.cells #[.string (⟨#[]⟩ : ByteArray), .string (⟨#[]⟩ : ByteArray), .string (⟨#[]⟩ : ByteArray)] 41 (0, 0))) ∧ (w.heap.size ≤ s_) ∧ (w.heap.size ≤ s_) ∧ (gb367 ≠ s_) ∧ (s_ ≠ gb367) ∧ (gb368 ≠ s_) ∧ (s_ ≠ gb368) ∧ (gb369 ≠ s_) ∧ (s_ ≠ gb369) ∧ (gb382 ≠ s_) ∧ (s_ ≠ gb382) ∧ (Below w.heap.size w w')) ?_ ?_
       rotate_left
       ·intro hJ1_3_8
        refine join_ (σ := Unit) 4 #[true, true, true, true, true, false, true, false, false, false] (fun s_ => [(23, .agg #[.int .u64 t383, .int .u64 t384, .bool t385]), (25, .agg #[.int .u64 t386, .int .u64 t387, .bool t388])]) (fun s_ w' => (u5_S0 a0_0 a0_1 a0_2 a1_0 a1_1 a1_2 a2_0 a2_1 a2_2 gb367 gb368 gb369 w') ∧ (w'.heap[gb367]? = some (.cells #[.int .u64 a0_0, .int .u64 a0_1, .bool a0_2] 24 (0, 0))) ∧ (w'.heap[gb368]? = some (.cells #[.int .u64 a1_0, .int .u64 a1_1, .bool a1_2] 24 (0, 0))) ∧ (w'.heap[gb369]? = some (.cells #[.int .u64 a2_0, .int .u64 a2_1, .bool a2_2] 24 (0, 0))) ∧ (w'.heap[gb382]? = some (.cells #[.string t379, .string t380, .string t381] 41 (0, 0))) ∧ (Below w.heap.size w w')) ?_ ?_
        rotate_left
        ·intro hJ1_3
         refine join_ (σ := Nat) 4 #[true, true, true, false, true, false, true, false, true, false] (fun s_ => [(23, .agg #[.int .u64 t383, .int .u64 t384, .bool t385]), (10, .pointer (some ⟨s_, 0, none⟩))]) (fun s_ w' => (u5_S0 a0_0 a0_1 a0_2 a1_0 a1_1 a1_2 a2_0 a2_1 a2_2 gb367 gb368 gb369 w') ∧ (w'.heap[gb367]? = some (.cells #[.int .u64 a0_0, .int .u64 a0_1, .bool a0_2] 24 (0, 0))) ∧ (w'.heap[gb368]? = some (.cells #[.int .u64 a1_0, .int .u64 a1_1, .bool a1_2] 24 (0, 0))) ∧ (w'.heap[gb369]? = some (.cells #[.int .u64 a2_0, .int .u64 a2_1, .bool a2_2] 24 (0, 0))) ∧ (w'.heap[gb382]? = some (.cells #[.string t379, .string t380, .string t381] 41 (0, 0))) ∧ (w'.heap[s_]? = some (.cells #[.string (⟨#[]⟩ : ByteArray), .string (⟨#[]⟩ : ByteArray), .string (⟨#[]⟩ : ByteArray)] 41 (0, 0))) ∧ (w.heap.size ≤ s_) ∧ (w.heap.size ≤ s_) ∧ (gb367 ≠ s_) ∧ (s_ ≠ gb367) ∧ (gb368 ≠ s_) ∧ (s_ ≠ gb368) ∧ (gb369 ≠ s_) ∧ (s_ ≠ gb369) ∧ (gb382 ≠ s_) ∧ (s_ ≠ gb382) ∧ (Below w.heap.size w w')) ?_ ?_
         rotate_left
         ·intro hJ1_8
          refine join_ (σ := Unit) 5 #[true, true, true, false, true, false, true, false, false, false] (fun s_ => [(23, .agg #[.int .u64 t383, .int .u64 t384, .bool t385])]) (fun s_ w' => (u5_S0 a0_0 a0_1 a0_2 a1_0 a1_1 a1_2 a2_0 a2_1 a2_2 gb367 gb368 gb369 w') ∧ (w'.heap[gb367]? = some (.cells #[.int .u64 a0_0, .int .u64 a0_1, .bool a0_2] 24 (0, 0))) ∧ (w'.heap[gb368]? = some (.cells #[.int .u64 a1_0, .int .u64 a1_1, .bool a1_2] 24 (0, 0))) ∧ (w'.heap[gb369]? = some (.cells #[.int .u64 a2_0, .int .u64 a2_1, .bool a2_2] 24 (0, 0))) ∧ (w'.heap[gb382]? = some (.cells #[.string t379, .string t380, .string t381] 41 (0, 0))) ∧ (Below w.heap.size w w')) ?_ ?_
          rotate_left
          ·intro hJ1
           refine join_ (σ := Nat) 5 #[true, false, true, false, true, false, true, false, true, false] (fun s_ => [(10, .pointer (some ⟨s_, 0, none⟩))]) (fun s_ w' => (u5_S0 a0_0 a0_1 a0_2 a1_0 a1_1 a1_2 a2_0 a2_1 a2_2 gb367 gb368 gb369 w') ∧ (w'.heap[gb367]? = some (.cells #[.int .u64 a0_0, .int .u64 a0_1, .bool a0_2] 24 (0, 0))) ∧ (w'.heap[gb368]? = some (.cells #[.int .u64 a1_0, .int .u64 a1_1, .bool a1_2] 24 (0, 0))) ∧ (w'.heap[gb369]? = some (.cells #[.int .u64 a2_0, .int .u64 a2_1, .bool a2_2] 24 (0, 0))) ∧ (w'.heap[gb382]? = some (.cells #[.string t379, .string t380, .string t381] 41 (0, 0))) ∧ (w'.heap[s_]? = some (.cells #[.string (⟨#[]⟩ : ByteArray), .string (⟨#[]⟩ : ByteArray), .string (⟨#[]⟩ : ByteArray)] 41 (0, 0))) ∧ (w.heap.size ≤ s_) ∧ (w.heap.size ≤ s_) ∧ (gb367 ≠ s_) ∧ (s_ ≠ gb367) ∧ (gb368 ≠ s_) ∧ (s_ ≠ gb368) ∧ (gb369 ≠ s_) ∧ (s_ ≠ gb369) ∧ (gb382 ≠ s_) ∧ (s_ ≠ gb382) ∧ (Below w.heap.size w w')) ?_ ?_
           rotate_left
           ·intro hJ8
            refine two_ (i := 1) (j := 8) (Ni := some 23) (Nj := some 10) #[true, true, true, false, true, false, true, false, false, false] #[true, false, true, false, true, false, true, false, true, false] rfl rfl rfl rfl (two_of HT_.out (by kernel_rfl)) (by decide) (by decide) (fun K hK => ?_) (fun K hK => ?_)
            ·skip
             refine goes_ Tryd.func16 (by kernel_rfl) rfl #[.agg #[.int .u64 a0_0, .int .u64 a0_1, .bool a0_2]] (by rfl) rfl rfl (by (try simp only [List.map_toArray, List.map_cons, List.map_nil]); first | done | rfl | (simp only [List.length_drop, List.length_take]; rfl)) ?_
             with_reducible refine (laws_toPoint.calls a0_0 a0_1 a0_2 t383 t384 t385 _ A13.out).mono ?_
             rintro e w68 ⟨rfl, hb⟩
             refine ⟨_, rfl, ?_⟩
             have n0_ := bkB BK367 hb
             have n1_ := bkB BK368 hb
             have n2_ := bkB BK369 hb
             have n3_ := bkB BK382 hb
             have n4_ := hbB HB hb
             clear BK367
             clear BK368
             clear BK369
             clear BK382
             clear HB
             have BK367 := n0_
             have BK368 := n1_
             have BK369 := n2_
             have BK382 := n3_
             have HB := n4_
             clear n0_ n1_ n2_ n3_ n4_
             (try clear hb)
             skip
             skip
             skip
             refine hK.out _ _ ⟨bc BK367 0, bc BK367 1, bc BK367 2, bc BK368 0, bc BK368 1, bc BK368 2, bc BK369 0, bc BK369 1, bc BK369 2⟩ (fun hHeld => ?_)
             clear hK K
             refine norm_ (a' := ?_) ?_ ?_
             rotate_left
             ·show Act.put _ (some 23) _ = _
              simp only [Act.put, List.setIfInBounds_toArray, List.set_cons_zero, List.set_cons_succ, i64_w, i32_w]
              rfl
             exact norm_ (by simp only [putAll, Act.put, List.setIfInBounds_toArray, List.set_cons_zero, List.set_cons_succ] <;> rfl) (hJ1 () _ ⟨hHeld, BK367.out, BK368.out, BK369.out, BK382.out, HB.out⟩)
            ·skip
             refine box_step ?hg (N := 10) ?hd (cs := #[.string (⟨#[]⟩ : ByteArray), .string (⟨#[]⟩ : ByteArray), .string (⟨#[]⟩ : ByteArray)]) (t := 41) ?hr ?_; (case hd => rfl); (case hg => rfl); (case hr => go_simp)
             intro gb395 hg w68 hbox hb
             have n0_ := bkB BK367 hb
             have n1_ := bkB BK368 hb
             have n2_ := bkB BK369 hb
             have n3_ := bkB BK382 hb
             have n4_ := hbB HB hb
             have n5_ := Aside0.mk (hbox)
             have n6_ := geA HB hg
             have n7_ := geA HB hg
             have n8_ := neA BK367 hg
             have n9_ := neB BK367 hg
             have n10_ := neA BK368 hg
             have n11_ := neB BK368 hg
             have n12_ := neA BK369 hg
             have n13_ := neB BK369 hg
             have n14_ := neA BK382 hg
             have n15_ := neB BK382 hg
             clear BK367
             clear BK368
             clear BK369
             clear BK382
             clear HB
             have BK367 := n0_
             have BK368 := n1_
             have BK369 := n2_
             have BK382 := n3_
             have HB := n4_
             have BK395 := n5_
             have GW395 := n6_
             have GE395 := n7_
             have NB367_395 := n8_
             have NB395_367 := n9_
             have NB368_395 := n10_
             have NB395_368 := n11_
             have NB369_395 := n12_
             have NB395_369 := n13_
             have NB382_395 := n14_
             have NB395_382 := n15_
             clear n0_ n1_ n2_ n3_ n4_ n5_ n6_ n7_ n8_ n9_ n10_ n11_ n12_ n13_ n14_ n15_
             clear hb hbox hg
             refine hK.out _ _ ⟨bc BK367 0, bc BK367 1, bc BK367 2, bc BK368 0, bc BK368 1, bc BK368 2, bc BK369 0, bc BK369 1, bc BK369 2⟩ (fun hHeld => ?_)
             clear hK K
             refine norm_ (a' := ?_) ?_ ?_
             rotate_left
             ·show Act.put _ (some 10) _ = _
              simp only [Act.put, List.setIfInBounds_toArray, List.set_cons_zero, List.set_cons_succ, i64_w, i32_w]
              rfl
             exact norm_ (by simp only [putAll, Act.put, List.setIfInBounds_toArray, List.set_cons_zero, List.set_cons_succ] <;> rfl) (hJ8 (gb395) _ ⟨hHeld, BK367.out, BK368.out, BK369.out, BK382.out, BK395.out, GW395.out, GE395.out, NB367_395.out, NB395_367.out, NB368_395.out, NB395_368.out, NB369_395.out, NB395_369.out, NB382_395.out, NB395_382.out, HB.out⟩)
           ·skip
            rintro gb395 w69 ⟨hS_, h0_, h1_, h2_, h3_, h4_, h5_, h6_, h7_, h8_, h9_, h10_, h11_, h12_, h13_, h14_, h15_⟩
            have n0_ := Aside0.mk h0_
            have n1_ := Aside0.mk h1_
            have n2_ := Aside0.mk h2_
            have n3_ := Aside0.mk h3_
            have n4_ := Aside0.mk h4_
            have n5_ := Aside0.mk h5_
            have n6_ := Aside0.mk h6_
            have n7_ := Aside0.mk h7_
            have n8_ := Aside0.mk h8_
            have n9_ := Aside0.mk h9_
            have n10_ := Aside0.mk h10_
            have n11_ := Aside0.mk h11_
            have n12_ := Aside0.mk h12_
            have n13_ := Aside0.mk h13_
            have n14_ := Aside0.mk h14_
            have n15_ := Aside0.mk h15_
            clear BK367
            clear BK368
            clear BK369
            clear BK382
            clear HB
            clear h0_ h1_ h2_ h3_ h4_ h5_ h6_ h7_ h8_ h9_ h10_ h11_ h12_ h13_ h14_ h15_
            have BK367 := n0_
            have BK368 := n1_
            have BK369 := n2_
            have BK382 := n3_
            have BK395 := n4_
            have GW395 := n5_
            have GE395 := n6_
            have NB367_395 := n7_
            have NB395_367 := n8_
            have NB368_395 := n9_
            have NB395_368 := n10_
            have NB369_395 := n11_
            have NB395_369 := n12_
            have NB382_395 := n13_
            have NB395_382 := n14_
            have HB := n15_
            clear n0_ n1_ n2_ n3_ n4_ n5_ n6_ n7_ n8_ n9_ n10_ n11_ n12_ n13_ n14_ n15_
            have hHeld : u5_S0 a0_0 a0_1 a0_2 a1_0 a1_1 a1_2 a2_0 a2_1 a2_2 gb367 gb368 gb369 w69 := hS_
            refine norm_ (a' := ?_) ?_ ?_
            rotate_left
            ·simp only [putAll, Act.put, List.setIfInBounds_toArray, List.set_cons_zero, List.set_cons_succ]
             rfl
            refine one_ (i := 1) (N := some 23) #[true, true, true, false, true, false, true, false, true, false] rfl rfl (one_of HT_.out (by kernel_rfl)) (by decide) (fun K hK => ?_)
            refine goes_ Tryd.func16 (by kernel_rfl) rfl #[.agg #[.int .u64 a0_0, .int .u64 a0_1, .bool a0_2]] (by rfl) rfl rfl (by (try simp only [List.map_toArray, List.map_cons, List.map_nil]); first | done | rfl | (simp only [List.length_drop, List.length_take]; rfl)) ?_
            with_reducible refine (laws_toPoint.calls a0_0 a0_1 a0_2 t383 t384 t385 _ A13.out).mono ?_
            rintro e w70 ⟨rfl, hb⟩
            refine ⟨_, rfl, ?_⟩
            have n0_ := bkB BK367 hb
            have n1_ := bkB BK368 hb
            have n2_ := bkB BK369 hb
            have n3_ := bkB BK382 hb
            have n4_ := bkB BK395 hb
            have n5_ := hbB HB hb
            clear BK367
            clear BK368
            clear BK369
            clear BK382
            clear BK395
            clear HB
            have BK367 := n0_
            have BK368 := n1_
            have BK369 := n2_
            have BK382 := n3_
            have BK395 := n4_
            have HB := n5_
            clear n0_ n1_ n2_ n3_ n4_ n5_
            (try clear hb)
            skip
            skip
            skip
            refine hK.out _ _ ⟨bc BK367 0, bc BK367 1, bc BK367 2, bc BK368 0, bc BK368 1, bc BK368 2, bc BK369 0, bc BK369 1, bc BK369 2⟩ (fun hHeld => ?_)
            clear hK K
            refine norm_ (a' := ?_) ?_ ?_
            rotate_left
            ·show Act.put _ (some 23) _ = _
             simp only [Act.put, List.setIfInBounds_toArray, List.set_cons_zero, List.set_cons_succ, i64_w, i32_w]
             rfl
            exact norm_ (by simp only [putAll, Act.put, List.setIfInBounds_toArray, List.set_cons_zero, List.set_cons_succ] <;> rfl) (hJ1_8 (gb395) _ ⟨hHeld, BK367.out, BK368.out, BK369.out, BK382.out, BK395.out, GW395.out, GE395.out, NB367_395.out, NB395_367.out, NB368_395.out, NB395_368.out, NB369_395.out, NB395_369.out, NB382_395.out, NB395_382.out, HB.out⟩)
          ·skip
           rintro _ w69 ⟨hS_, h0_, h1_, h2_, h3_, h4_⟩
           have n0_ := Aside0.mk h0_
           have n1_ := Aside0.mk h1_
           have n2_ := Aside0.mk h2_
           have n3_ := Aside0.mk h3_
           have n4_ := Aside0.mk h4_
           clear BK367
           clear BK368
           clear BK369
           clear BK382
           clear HB
           clear h0_ h1_ h2_ h3_ h4_
           have BK367 := n0_
           have BK368 := n1_
           have BK369 := n2_
           have BK382 := n3_
           have HB := n4_
           clear n0_ n1_ n2_ n3_ n4_
           have hHeld : u5_S0 a0_0 a0_1 a0_2 a1_0 a1_1 a1_2 a2_0 a2_1 a2_2 gb367 gb368 gb369 w69 := hS_
           refine norm_ (a' := ?_) ?_ ?_
           rotate_left
           ·simp only [putAll, Act.put, List.setIfInBounds_toArray, List.set_cons_zero, List.set_cons_succ]
            rfl
           refine two_ (i := 3) (j := 8) (Ni := some 25) (Nj := some 10) #[true, true, true, true, true, false, true, false, false, false] #[true, true, true, false, true, false, true, false, true, false] rfl rfl rfl rfl (two_of HT_.out (by kernel_rfl)) (by decide) (by decide) (fun K hK => ?_) (fun K hK => ?_)
           ·skip
            refine goes_ Tryd.func16 (by kernel_rfl) rfl #[.agg #[.int .u64 a1_0, .int .u64 a1_1, .bool a1_2]] (by rfl) rfl rfl (by (try simp only [List.map_toArray, List.map_cons, List.map_nil]); first | done | rfl | (simp only [List.length_drop, List.length_take]; rfl)) ?_
            with_reducible refine (laws_toPoint.calls a1_0 a1_1 a1_2 t386 t387 t388 _ A14.out).mono ?_
            rintro e w70 ⟨rfl, hb⟩
            refine ⟨_, rfl, ?_⟩
            have n0_ := bkB BK367 hb
            have n1_ := bkB BK368 hb
            have n2_ := bkB BK369 hb
            have n3_ := bkB BK382 hb
            have n4_ := hbB HB hb
            clear BK367
            clear BK368
            clear BK369
            clear BK382
            clear HB
            have BK367 := n0_
            have BK368 := n1_
            have BK369 := n2_
            have BK382 := n3_
            have HB := n4_
            clear n0_ n1_ n2_ n3_ n4_
            (try clear hb)
            skip
            skip
            skip
            refine hK.out _ _ ⟨bc BK367 0, bc BK367 1, bc BK367 2, bc BK368 0, bc BK368 1, bc BK368 2, bc BK369 0, bc BK369 1, bc BK369 2⟩ (fun hHeld => ?_)
            clear hK K
            refine norm_ (a' := ?_) ?_ ?_
            rotate_left
            ·show Act.put _ (some 25) _ = _
             simp only [Act.put, List.setIfInBounds_toArray, List.set_cons_zero, List.set_cons_succ, i64_w, i32_w]
             rfl
            exact norm_ (by simp only [putAll, Act.put, List.setIfInBounds_toArray, List.set_cons_zero, List.set_cons_succ] <;> rfl) (hJ1_3 () _ ⟨hHeld, BK367.out, BK368.out, BK369.out, BK382.out, HB.out⟩)
           ·skip
            refine box_step ?hg (N := 10) ?hd (cs := #[.string (⟨#[]⟩ : ByteArray), .string (⟨#[]⟩ : ByteArray), .string (⟨#[]⟩ : ByteArray)]) (t := 41) ?hr ?_; (case hd => rfl); (case hg => rfl); (case hr => go_simp)
            intro gb395 hg w70 hbox hb
            have n0_ := bkB BK367 hb
            have n1_ := bkB BK368 hb
            have n2_ := bkB BK369 hb
            have n3_ := bkB BK382 hb
            have n4_ := hbB HB hb
            have n5_ := Aside0.mk (hbox)
            have n6_ := geA HB hg
            have n7_ := geA HB hg
            have n8_ := neA BK367 hg
            have n9_ := neB BK367 hg
            have n10_ := neA BK368 hg
            have n11_ := neB BK368 hg
            have n12_ := neA BK369 hg
            have n13_ := neB BK369 hg
            have n14_ := neA BK382 hg
            have n15_ := neB BK382 hg
            clear BK367
            clear BK368
            clear BK369
            clear BK382
            clear HB
            have BK367 := n0_
            have BK368 := n1_
            have BK369 := n2_
            have BK382 := n3_
            have HB := n4_
            have BK395 := n5_
            have GW395 := n6_
            have GE395 := n7_
            have NB367_395 := n8_
            have NB395_367 := n9_
            have NB368_395 := n10_
            have NB395_368 := n11_
            have NB369_395 := n12_
            have NB395_369 := n13_
            have NB382_395 := n14_
            have NB395_382 := n15_
            clear n0_ n1_ n2_ n3_ n4_ n5_ n6_ n7_ n8_ n9_ n10_ n11_ n12_ n13_ n14_ n15_
            clear hb hbox hg
            refine hK.out _ _ ⟨bc BK367 0, bc BK367 1, bc BK367 2, bc BK368 0, bc BK368 1, bc BK368 2, bc BK369 0, bc BK369 1, bc BK369 2⟩ (fun hHeld => ?_)
            clear hK K
            refine norm_ (a' := ?_) ?_ ?_
            rotate_left
            ·show Act.put _ (some 10) _ = _
             simp only [Act.put, List.setIfInBounds_toArray, List.set_cons_zero, List.set_cons_succ, i64_w, i32_w]
             rfl
            exact norm_ (by simp only [putAll, Act.put, List.setIfInBounds_toArray, List.set_cons_zero, List.set_cons_succ] <;> rfl) (hJ1_8 (gb395) _ ⟨hHeld, BK367.out, BK368.out, BK369.out, BK382.out, BK395.out, GW395.out, GE395.out, NB367_395.out, NB395_367.out, NB368_395.out, NB395_368.out, NB369_395.out, NB395_369.out, NB382_395.out, NB395_382.out, HB.out⟩)
         ·skip
          rintro gb395 w70 ⟨hS_, h0_, h1_, h2_, h3_, h4_, h5_, h6_, h7_, h8_, h9_, h10_, h11_, h12_, h13_, h14_, h15_⟩
          have n0_ := Aside0.mk h0_
          have n1_ := Aside0.mk h1_
          have n2_ := Aside0.mk h2_
          have n3_ := Aside0.mk h3_
          have n4_ := Aside0.mk h4_
          have n5_ := Aside0.mk h5_
          have n6_ := Aside0.mk h6_
          have n7_ := Aside0.mk h7_
          have n8_ := Aside0.mk h8_
          have n9_ := Aside0.mk h9_
          have n10_ := Aside0.mk h10_
          have n11_ := Aside0.mk h11_
          have n12_ := Aside0.mk h12_
          have n13_ := Aside0.mk h13_
          have n14_ := Aside0.mk h14_
          have n15_ := Aside0.mk h15_
          clear BK367
          clear BK368
          clear BK369
          clear BK382
          clear HB
          clear h0_ h1_ h2_ h3_ h4_ h5_ h6_ h7_ h8_ h9_ h10_ h11_ h12_ h13_ h14_ h15_
          have BK367 := n0_
          have BK368 := n1_
          have BK369 := n2_
          have BK382 := n3_
          have BK395 := n4_
          have GW395 := n5_
          have GE395 := n6_
          have NB367_395 := n7_
          have NB395_367 := n8_
          have NB368_395 := n9_
          have NB395_368 := n10_
          have NB369_395 := n11_
          have NB395_369 := n12_
          have NB382_395 := n13_
          have NB395_382 := n14_
          have HB := n15_
          clear n0_ n1_ n2_ n3_ n4_ n5_ n6_ n7_ n8_ n9_ n10_ n11_ n12_ n13_ n14_ n15_
          have hHeld : u5_S0 a0_0 a0_1 a0_2 a1_0 a1_1 a1_2 a2_0 a2_1 a2_2 gb367 gb368 gb369 w70 := hS_
          refine norm_ (a' := ?_) ?_ ?_
          rotate_left
          ·simp only [putAll, Act.put, List.setIfInBounds_toArray, List.set_cons_zero, List.set_cons_succ]
           rfl
          refine one_ (i := 3) (N := some 25) #[true, true, true, true, true, false, true, false, true, false] rfl rfl (one_of HT_.out (by kernel_rfl)) (by decide) (fun K hK => ?_)
          refine goes_ Tryd.func16 (by kernel_rfl) rfl #[.agg #[.int .u64 a1_0, .int .u64 a1_1, .bool a1_2]] (by rfl) rfl rfl (by (try simp only [List.map_toArray, List.map_cons, List.map_nil]); first | done | rfl | (simp only [List.length_drop, List.length_take]; rfl)) ?_
          with_reducible refine (laws_toPoint.calls a1_0 a1_1 a1_2 t386 t387 t388 _ A14.out).mono ?_
          rintro e w71 ⟨rfl, hb⟩
          refine ⟨_, rfl, ?_⟩
          have n0_ := bkB BK367 hb
          have n1_ := bkB BK368 hb
          have n2_ := bkB BK369 hb
          have n3_ := bkB BK382 hb
          have n4_ := bkB BK395 hb
          have n5_ := hbB HB hb
          clear BK367
          clear BK368
          clear BK369
          clear BK382
          clear BK395
          clear HB
          have BK367 := n0_
          have BK368 := n1_
          have BK369 := n2_
          have BK382 := n3_
          have BK395 := n4_
          have HB := n5_
          clear n0_ n1_ n2_ n3_ n4_ n5_
          (try clear hb)
          skip
          skip
          skip
          refine hK.out _ _ ⟨bc BK367 0, bc BK367 1, bc BK367 2, bc BK368 0, bc BK368 1, bc BK368 2, bc BK369 0, bc BK369 1, bc BK369 2⟩ (fun hHeld => ?_)
          clear hK K
          refine norm_ (a' := ?_) ?_ ?_
          rotate_left
          ·show Act.put _ (some 25) _ = _
           simp only [Act.put, List.setIfInBounds_toArray, List.set_cons_zero, List.set_cons_succ, i64_w, i32_w]
           rfl
          exact norm_ (by simp only [putAll, Act.put, List.setIfInBounds_toArray, List.set_cons_zero, List.set_cons_succ] <;> rfl) (hJ1_3_8 (gb395) _ ⟨hHeld, BK367.out, BK368.out, BK369.out, BK382.out, BK395.out, GW395.out, GE395.out, NB367_395.out, NB395_367.out, NB368_395.out, NB395_368.out, NB369_395.out, NB395_369.out, NB382_395.out, NB395_382.out, HB.out⟩)
        ·skip
         rintro _ w70 ⟨hS_, h0_, h1_, h2_, h3_, h4_⟩
         have n0_ := Aside0.mk h0_
         have n1_ := Aside0.mk h1_
         have n2_ := Aside0.mk h2_
         have n3_ := Aside0.mk h3_
         have n4_ := Aside0.mk h4_
         clear BK367
         clear BK368
         clear BK369
         clear BK382
         clear HB
         clear h0_ h1_ h2_ h3_ h4_
         have BK367 := n0_
         have BK368 := n1_
         have BK369 := n2_
         have BK382 := n3_
         have HB := n4_
         clear n0_ n1_ n2_ n3_ n4_
         have hHeld : u5_S0 a0_0 a0_1 a0_2 a1_0 a1_1 a1_2 a2_0 a2_1 a2_2 gb367 gb368 gb369 w70 := hS_
         refine norm_ (a' := ?_) ?_ ?_
         rotate_left
         ·simp only [putAll, Act.put, List.setIfInBounds_toArray, List.set_cons_zero, List.set_cons_succ]
          rfl
         refine two_ (i := 5) (j := 8) (Ni := some 27) (Nj := some 10) #[true, true, true, true, true, true, true, false, false, false] #[true, true, true, true, true, false, true, false, true, false] rfl rfl rfl rfl (two_of HT_.out (by kernel_rfl)) (by decide) (by decide) (fun K hK => ?_) (fun K hK => ?_)
         ·skip
          refine goes_ Tryd.func16 (by kernel_rfl) rfl #[.agg #[.int .u64 a2_0, .int .u64 a2_1, .bool a2_2]] (by rfl) rfl rfl (by (try simp only [List.map_toArray, List.map_cons, List.map_nil]); first | done | rfl | (simp only [List.length_drop, List.length_take]; rfl)) ?_
          with_reducible refine (laws_toPoint.calls a2_0 a2_1 a2_2 t389 t390 t391 _ A15.out).mono ?_
          rintro e w71 ⟨rfl, hb⟩
          refine ⟨_, rfl, ?_⟩
          have n0_ := bkB BK367 hb
          have n1_ := bkB BK368 hb
          have n2_ := bkB BK369 hb
          have n3_ := bkB BK382 hb
          have n4_ := hbB HB hb
          clear BK367
          clear BK368
          clear BK369
          clear BK382
          clear HB
          have BK367 := n0_
          have BK368 := n1_
          have BK369 := n2_
          have BK382 := n3_
          have HB := n4_
          clear n0_ n1_ n2_ n3_ n4_
          (try clear hb)
          skip
          skip
          skip
          refine hK.out _ _ ⟨bc BK367 0, bc BK367 1, bc BK367 2, bc BK368 0, bc BK368 1, bc BK368 2, bc BK369 0, bc BK369 1, bc BK369 2⟩ (fun hHeld => ?_)
          clear hK K
          refine norm_ (a' := ?_) ?_ ?_
          rotate_left
          ·show Act.put _ (some 27) _ = _
           simp only [Act.put, List.setIfInBounds_toArray, List.set_cons_zero, List.set_cons_succ, i64_w, i32_w]
           rfl
          exact norm_ (by simp only [putAll, Act.put, List.setIfInBounds_toArray, List.set_cons_zero, List.set_cons_succ] <;> rfl) (hJ1_3_5 () _ ⟨hHeld, BK367.out, BK368.out, BK369.out, BK382.out, HB.out⟩)
         ·skip
          refine box_step ?hg (N := 10) ?hd (cs := #[.string (⟨#[]⟩ : ByteArray), .string (⟨#[]⟩ : ByteArray), .string (⟨#[]⟩ : ByteArray)]) (t := 41) ?hr ?_; (case hd => rfl); (case hg => rfl); (case hr => go_simp)
          intro gb395 hg w71 hbox hb
          have n0_ := bkB BK367 hb
          have n1_ := bkB BK368 hb
          have n2_ := bkB BK369 hb
          have n3_ := bkB BK382 hb
          have n4_ := hbB HB hb
          have n5_ := Aside0.mk (hbox)
          have n6_ := geA HB hg
          have n7_ := geA HB hg
          have n8_ := neA BK367 hg
          have n9_ := neB BK367 hg
          have n10_ := neA BK368 hg
          have n11_ := neB BK368 hg
          have n12_ := neA BK369 hg
          have n13_ := neB BK369 hg
          have n14_ := neA BK382 hg
          have n15_ := neB BK382 hg
          clear BK367
          clear BK368
          clear BK369
          clear BK382
          clear HB
          have BK367 := n0_
          have BK368 := n1_
          have BK369 := n2_
          have BK382 := n3_
          have HB := n4_
          have BK395 := n5_
          have GW395 := n6_
          have GE395 := n7_
          have NB367_395 := n8_
          have NB395_367 := n9_
          have NB368_395 := n10_
          have NB395_368 := n11_
          have NB369_395 := n12_
          have NB395_369 := n13_
          have NB382_395 := n14_
          have NB395_382 := n15_
          clear n0_ n1_ n2_ n3_ n4_ n5_ n6_ n7_ n8_ n9_ n10_ n11_ n12_ n13_ n14_ n15_
          clear hb hbox hg
          refine hK.out _ _ ⟨bc BK367 0, bc BK367 1, bc BK367 2, bc BK368 0, bc BK368 1, bc BK368 2, bc BK369 0, bc BK369 1, bc BK369 2⟩ (fun hHeld => ?_)
          clear hK K
          refine norm_ (a' := ?_) ?_ ?_
          rotate_left
          ·show Act.put _ (some 10) _ = _
           simp only [Act.put, List.setIfInBounds_toArray, List.set_cons_zero, List.set_cons_succ, i64_w, i32_w]
           rfl
          exact norm_ (by simp only [putAll, Act.put, List.setIfInBounds_toArray, List.set_cons_zero, List.set_cons_succ] <;> rfl) (hJ1_3_8 (gb395) _ ⟨hHeld, BK367.out, BK368.out, BK369.out, BK382.out, BK395.out, GW395.out, GE395.out, NB367_395.out, NB395_367.out, NB368_395.out, NB395_368.out, NB369_395.out, NB395_369.out, NB382_395.out, NB395_382.out, HB.out⟩)
       ·skip
        rintro gb395 w71 ⟨hS_, h0_, h1_, h2_, h3_, h4_, h5_, h6_, h7_, h8_, h9_, h10_, h11_, h12_, h13_, h14_, h15_⟩
        have n0_ := Aside0.mk h0_
        have n1_ := Aside0.mk h1_
        have n2_ := Aside0.mk h2_
        have n3_ := Aside0.mk h3_
        have n4_ := Aside0.mk h4_
        have n5_ := Aside0.mk h5_
        have n6_ := Aside0.mk h6_
        have n7_ := Aside0.mk h7_
        have n8_ := Aside0.mk h8_
        have n9_ := Aside0.mk h9_
        have n10_ := Aside0.mk h10_
        have n11_ := Aside0.mk h11_
        have n12_ := Aside0.mk h12_
        have n13_ := Aside0.mk h13_
        have n14_ := Aside0.mk h14_
        have n15_ := Aside0.mk h15_
        clear BK367
        clear BK368
        clear BK369
        clear BK382
        clear HB
        clear h0_ h1_ h2_ h3_ h4_ h5_ h6_ h7_ h8_ h9_ h10_ h11_ h12_ h13_ h14_ h15_
        have BK367 := n0_
        have BK368 := n1_
        have BK369 := n2_
        have BK382 := n3_
        have BK395 := n4_
        have GW395 := n5_
        have GE395 := n6_
        have NB367_395 := n7_
        have NB395_367 := n8_
        have NB368_395 := n9_
        have NB395_368 := n10_
        have NB369_395 := n11_
        have NB395_369 := n12_
        have NB382_395 := n13_
        have NB395_382 := n14_
        have HB := n15_
        clear n0_ n1_ n2_ n3_ n4_ n5_ n6_ n7_ n8_ n9_ n10_ n11_ n12_ n13_ n14_ n15_
        have hHeld : u5_S0 a0_0 a0_1 a0_2 a1_0 a1_1 a1_2 a2_0 a2_1 a2_2 gb367 gb368 gb369 w71 := hS_
        refine norm_ (a' := ?_) ?_ ?_
        rotate_left
        ·simp only [putAll, Act.put, List.setIfInBounds_toArray, List.set_cons_zero, List.set_cons_succ]
         rfl
        refine one_ (i := 5) (N := some 27) #[true, true, true, true, true, true, true, false, true, false] rfl rfl (one_of HT_.out (by kernel_rfl)) (by decide) (fun K hK => ?_)
        refine goes_ Tryd.func16 (by kernel_rfl) rfl #[.agg #[.int .u64 a2_0, .int .u64 a2_1, .bool a2_2]] (by rfl) rfl rfl (by (try simp only [List.map_toArray, List.map_cons, List.map_nil]); first | done | rfl | (simp only [List.length_drop, List.length_take]; rfl)) ?_
        with_reducible refine (laws_toPoint.calls a2_0 a2_1 a2_2 t389 t390 t391 _ A15.out).mono ?_
        rintro e w72 ⟨rfl, hb⟩
        refine ⟨_, rfl, ?_⟩
        have n0_ := bkB BK367 hb
        have n1_ := bkB BK368 hb
        have n2_ := bkB BK369 hb
        have n3_ := bkB BK382 hb
        have n4_ := bkB BK395 hb
        have n5_ := hbB HB hb
        clear BK367
        clear BK368
        clear BK369
        clear BK382
        clear BK395
        clear HB
        have BK367 := n0_
        have BK368 := n1_
        have BK369 := n2_
        have BK382 := n3_
        have BK395 := n4_
        have HB := n5_
        clear n0_ n1_ n2_ n3_ n4_ n5_
        (try clear hb)
        skip
        skip
        skip
        refine hK.out _ _ ⟨bc BK367 0, bc BK367 1, bc BK367 2, bc BK368 0, bc BK368 1, bc BK368 2, bc BK369 0, bc BK369 1, bc BK369 2⟩ (fun hHeld => ?_)
        clear hK K
        refine norm_ (a' := ?_) ?_ ?_
        rotate_left
        ·show Act.put _ (some 27) _ = _
         simp only [Act.put, List.setIfInBounds_toArray, List.set_cons_zero, List.set_cons_succ, i64_w, i32_w]
         rfl
        exact norm_ (by simp only [putAll, Act.put, List.setIfInBounds_toArray, List.set_cons_zero, List.set_cons_succ] <;> rfl) (hJ1_3_5_8 (gb395) _ ⟨hHeld, BK367.out, BK368.out, BK369.out, BK382.out, BK395.out, GW395.out, GE395.out, NB367_395.out, NB395_367.out, NB368_395.out, NB395_368.out, NB369_395.out, NB395_369.out, NB382_395.out, NB395_382.out, HB.out⟩)
      ·skip
       rintro _ w71 ⟨hS_, h0_, h1_, h2_, h3_, h4_⟩
       have n0_ := Aside0.mk h0_
       have n1_ := Aside0.mk h1_
       have n2_ := Aside0.mk h2_
       have n3_ := Aside0.mk h3_
       have n4_ := Aside0.mk h4_
       clear BK367
       clear BK368
       clear BK369
       clear BK382
       clear HB
       clear h0_ h1_ h2_ h3_ h4_
       have BK367 := n0_
       have BK368 := n1_
       have BK369 := n2_
       have BK382 := n3_
       have HB := n4_
       clear n0_ n1_ n2_ n3_ n4_
       have hHeld : u5_S0 a0_0 a0_1 a0_2 a1_0 a1_1 a1_2 a2_0 a2_1 a2_2 gb367 gb368 gb369 w71 := hS_
       refine norm_ (a' := ?_) ?_ ?_
       rotate_left
       ·simp only [putAll, Act.put, List.setIfInBounds_toArray, List.set_cons_zero, List.set_cons_succ]
        rfl
       refine two_ (i := 7) (j := 8) (Ni := some 29) (Nj := some 10) #[true, true, true, true, true, true, true, true, false, false] #[true, true, true, true, true, true, true, false, true, false] rfl rfl rfl rfl (two_of HT_.out (by kernel_rfl)) (by decide) (by decide) (fun K hK => ?_) (fun K hK => ?_)
       ·skip
        refine goes_ Tryd.func17 (by kernel_rfl) rfl #[.agg #[.int .u64 t383, .int .u64 t384, .bool t385], .agg #[.int .u64 t386, .int .u64 t387, .bool t388], .agg #[.int .u64 t389, .int .u64 t390, .bool t391], .string a3] (by rfl) rfl rfl (by (try simp only [List.map_toArray, List.map_cons, List.map_nil]); first | done | rfl | (simp only [List.length_drop, List.length_take]; rfl)) ?_
        with_reducible refine (impl_Agree.calls k t383 t384 t385 t386 t387 t388 t389 t390 t391 a3 t392 t393 t394 _ A16.out ?_ ?_).mono ?_
        ·exact Glob.of_below hG HB.out
        ·exact GlobZ.of_below hZ HB.out
        rintro e w72 ⟨rfl, hb⟩
        refine ⟨_, rfl, ?_⟩
        have n0_ := bkB BK367 hb
        have n1_ := bkB BK368 hb
        have n2_ := bkB BK369 hb
        have n3_ := bkB BK382 hb
        have n4_ := hbB HB hb
        clear BK367
        clear BK368
        clear BK369
        clear BK382
        clear HB
        have BK367 := n0_
        have BK368 := n1_
        have BK369 := n2_
        have BK382 := n3_
        have HB := n4_
        clear n0_ n1_ n2_ n3_ n4_
        (try clear hb)
        skip
        skip
        skip
        refine hK.out _ _ ⟨bc BK367 0, bc BK367 1, bc BK367 2, bc BK368 0, bc BK368 1, bc BK368 2, bc BK369 0, bc BK369 1, bc BK369 2⟩ (fun hHeld => ?_)
        clear hK K
        refine norm_ (a' := ?_) ?_ ?_
        rotate_left
        ·show Act.put _ (some 29) _ = _
         simp only [Act.put, List.setIfInBounds_toArray, List.set_cons_zero, List.set_cons_succ, i64_w, i32_w]
         rfl
        exact norm_ (by simp only [putAll, Act.put, List.setIfInBounds_toArray, List.set_cons_zero, List.set_cons_succ] <;> rfl) (hJ1_3_5_7 () _ ⟨hHeld, BK367.out, BK368.out, BK369.out, BK382.out, HB.out⟩)
       ·skip
        refine box_step ?hg (N := 10) ?hd (cs := #[.string (⟨#[]⟩ : ByteArray), .string (⟨#[]⟩ : ByteArray), .string (⟨#[]⟩ : ByteArray)]) (t := 41) ?hr ?_; (case hd => rfl); (case hg => rfl); (case hr => go_simp)
        intro gb395 hg w72 hbox hb
        have n0_ := bkB BK367 hb
        have n1_ := bkB BK368 hb
        have n2_ := bkB BK369 hb
        have n3_ := bkB BK382 hb
        have n4_ := hbB HB hb
        have n5_ := Aside0.mk (hbox)
        have n6_ := geA HB hg
        have n7_ := geA HB hg
        have n8_ := neA BK367 hg
        have n9_ := neB BK367 hg
        have n10_ := neA BK368 hg
        have n11_ := neB BK368 hg
        have n12_ := neA BK369 hg
        have n13_ := neB BK369 hg
        have n14_ := neA BK382 hg
        have n15_ := neB BK382 hg
        clear BK367
        clear BK368
        clear BK369
        clear BK382
        clear HB
        have BK367 := n0_
        have BK368 := n1_
        have BK369 := n2_
        have BK382 := n3_
        have HB := n4_
        have BK395 := n5_
        have GW395 := n6_
        have GE395 := n7_
        have NB367_395 := n8_
        have NB395_367 := n9_
        have NB368_395 := n10_
        have NB395_368 := n11_
        have NB369_395 := n12_
        have NB395_369 := n13_
        have NB382_395 := n14_
        have NB395_382 := n15_
        clear n0_ n1_ n2_ n3_ n4_ n5_ n6_ n7_ n8_ n9_ n10_ n11_ n12_ n13_ n14_ n15_
        clear hb hbox hg
        refine hK.out _ _ ⟨bc BK367 0, bc BK367 1, bc BK367 2, bc BK368 0, bc BK368 1, bc BK368 2, bc BK369 0, bc BK369 1, bc BK369 2⟩ (fun hHeld => ?_)
        clear hK K
        refine norm_ (a' := ?_) ?_ ?_
        rotate_left
        ·show Act.put _ (some 10) _ = _
         simp only [Act.put, List.setIfInBounds_toArray, List.set_cons_zero, List.set_cons_succ, i64_w, i32_w]
         rfl
        exact norm_ (by simp only [putAll, Act.put, List.setIfInBounds_toArray, List.set_cons_zero, List.set_cons_succ] <;> rfl) (hJ1_3_5_8 (gb395) _ ⟨hHeld, BK367.out, BK368.out, BK369.out, BK382.out, BK395.out, GW395.out, GE395.out, NB367_395.out, NB395_367.out, NB368_395.out, NB395_368.out, NB369_395.out, NB395_369.out, NB382_395.out, NB395_382.out, HB.out⟩)
     ·skip
      rintro gb395 w72 ⟨hS_, h0_, h1_, h2_, h3_, h4_, h5_, h6_, h7_, h8_, h9_, h10_, h11_, h12_, h13_, h14_, h15_⟩
      have n0_ := Aside0.mk h0_
      have n1_ := Aside0.mk h1_
      have n2_ := Aside0.mk h2_
      have n3_ := Aside0.mk h3_
      have n4_ := Aside0.mk h4_
      have n5_ := Aside0.mk h5_
      have n6_ := Aside0.mk h6_
      have n7_ := Aside0.mk h7_
      have n8_ := Aside0.mk h8_
      have n9_ := Aside0.mk h9_
      have n10_ := Aside0.mk h10_
      have n11_ := Aside0.mk h11_
      have n12_ := Aside0.mk h12_
      have n13_ := Aside0.mk h13_
      have n14_ := Aside0.mk h14_
      have n15_ := Aside0.mk h15_
      clear BK367
      clear BK368
      clear BK369
      clear BK382
      clear HB
      clear h0_ h1_ h2_ h3_ h4_ h5_ h6_ h7_ h8_ h9_ h10_ h11_ h12_ h13_ h14_ h15_
      have BK367 := n0_
      have BK368 := n1_
      have BK369 := n2_
      have BK382 := n3_
      have BK395 := n4_
      have GW395 := n5_
      have GE395 := n6_
      have NB367_395 := n7_
      have NB395_367 := n8_
      have NB368_395 := n9_
      have NB395_368 := n10_
      have NB369_395 := n11_
      have NB395_369 := n12_
      have NB382_395 := n13_
      have NB395_382 := n14_
      have HB := n15_
      clear n0_ n1_ n2_ n3_ n4_ n5_ n6_ n7_ n8_ n9_ n10_ n11_ n12_ n13_ n14_ n15_
      have hHeld : u5_S0 a0_0 a0_1 a0_2 a1_0 a1_1 a1_2 a2_0 a2_1 a2_2 gb367 gb368 gb369 w72 := hS_
      refine norm_ (a' := ?_) ?_ ?_
      rotate_left
      ·simp only [putAll, Act.put, List.setIfInBounds_toArray, List.set_cons_zero, List.set_cons_succ]
       rfl
      refine one_ (i := 7) (N := some 29) #[true, true, true, true, true, true, true, true, true, false] rfl rfl (one_of HT_.out (by kernel_rfl)) (by decide) (fun K hK => ?_)
      refine goes_ Tryd.func17 (by kernel_rfl) rfl #[.agg #[.int .u64 t383, .int .u64 t384, .bool t385], .agg #[.int .u64 t386, .int .u64 t387, .bool t388], .agg #[.int .u64 t389, .int .u64 t390, .bool t391], .string a3] (by rfl) rfl rfl (by (try simp only [List.map_toArray, List.map_cons, List.map_nil]); first | done | rfl | (simp only [List.length_drop, List.length_take]; rfl)) ?_
      with_reducible refine (impl_Agree.calls k t383 t384 t385 t386 t387 t388 t389 t390 t391 a3 t392 t393 t394 _ A16.out ?_ ?_).mono ?_
      ·exact Glob.of_below hG HB.out
      ·exact GlobZ.of_below hZ HB.out
      rintro e w73 ⟨rfl, hb⟩
      refine ⟨_, rfl, ?_⟩
      have n0_ := bkB BK367 hb
      have n1_ := bkB BK368 hb
      have n2_ := bkB BK369 hb
      have n3_ := bkB BK382 hb
      have n4_ := bkB BK395 hb
      have n5_ := hbB HB hb
      clear BK367
      clear BK368
      clear BK369
      clear BK382
      clear BK395
      clear HB
      have BK367 := n0_
      have BK368 := n1_
      have BK369 := n2_
      have BK382 := n3_
      have BK395 := n4_
      have HB := n5_
      clear n0_ n1_ n2_ n3_ n4_ n5_
      (try clear hb)
      skip
      skip
      skip
      refine hK.out _ _ ⟨bc BK367 0, bc BK367 1, bc BK367 2, bc BK368 0, bc BK368 1, bc BK368 2, bc BK369 0, bc BK369 1, bc BK369 2⟩ (fun hHeld => ?_)
      clear hK K
      refine norm_ (a' := ?_) ?_ ?_
      rotate_left
      ·show Act.put _ (some 29) _ = _
       simp only [Act.put, List.setIfInBounds_toArray, List.set_cons_zero, List.set_cons_succ, i64_w, i32_w]
       rfl
      exact norm_ (by simp only [putAll, Act.put, List.setIfInBounds_toArray, List.set_cons_zero, List.set_cons_succ] <;> rfl) (hJ1_3_5_7_8 (gb395) _ ⟨hHeld, BK367.out, BK368.out, BK369.out, BK382.out, BK395.out, GW395.out, GE395.out, NB367_395.out, NB395_367.out, NB368_395.out, NB395_368.out, NB369_395.out, NB395_369.out, NB382_395.out, NB395_382.out, HB.out⟩)
    ·skip
     rintro _ w72 ⟨hS_, h0_, h1_, h2_, h3_, h4_⟩
     have n0_ := Aside0.mk h0_
     have n1_ := Aside0.mk h1_
     have n2_ := Aside0.mk h2_
     have n3_ := Aside0.mk h3_
     have n4_ := Aside0.mk h4_
     clear BK367
     clear BK368
     clear BK369
     clear BK382
     clear HB
     clear h0_ h1_ h2_ h3_ h4_
     have BK367 := n0_
     have BK368 := n1_
     have BK369 := n2_
     have BK382 := n3_
     have HB := n4_
     clear n0_ n1_ n2_ n3_ n4_
     have hHeld : u5_S0 a0_0 a0_1 a0_2 a1_0 a1_1 a1_2 a2_0 a2_1 a2_2 gb367 gb368 gb369 w72 := hS_
     refine norm_ (a' := ?_) ?_ ?_
     rotate_left
     ·simp only [putAll, Act.put, List.setIfInBounds_toArray, List.set_cons_zero, List.set_cons_succ]
      rfl
     refine one_ (i := 8) (N := some 10) #[true, true, true, true, true, true, true, true, true, false] rfl rfl (one_of HT_.out (by kernel_rfl)) (by decide) (fun K hK => ?_)
     refine box_step ?hg (N := 10) ?hd (cs := #[.string (⟨#[]⟩ : ByteArray), .string (⟨#[]⟩ : ByteArray), .string (⟨#[]⟩ : ByteArray)]) (t := 41) ?hr ?_; (case hd => rfl); (case hg => rfl); (case hr => go_simp)
     intro gb395 hg w73 hbox hb
     have n0_ := bkB BK367 hb
     have n1_ := bkB BK368 hb
     have n2_ := bkB BK369 hb
     have n3_ := bkB BK382 hb
     have n4_ := hbB HB hb
     have n5_ := Aside0.mk (hbox)
     have n6_ := geA HB hg
     have n7_ := geA HB hg
     have n8_ := neA BK367 hg
     have n9_ := neB BK367 hg
     have n10_ := neA BK368 hg
     have n11_ := neB BK368 hg
     have n12_ := neA BK369 hg
     have n13_ := neB BK369 hg
     have n14_ := neA BK382 hg
     have n15_ := neB BK382 hg
     clear BK367
     clear BK368
     clear BK369
     clear BK382
     clear HB
     have BK367 := n0_
     have BK368 := n1_
     have BK369 := n2_
     have BK382 := n3_
     have HB := n4_
     have BK395 := n5_
     have GW395 := n6_
     have GE395 := n7_
     have NB367_395 := n8_
     have NB395_367 := n9_
     have NB368_395 := n10_
     have NB395_368 := n11_
     have NB369_395 := n12_
     have NB395_369 := n13_
     have NB382_395 := n14_
     have NB395_382 := n15_
     clear n0_ n1_ n2_ n3_ n4_ n5_ n6_ n7_ n8_ n9_ n10_ n11_ n12_ n13_ n14_ n15_
     clear hb hbox hg
     refine hK.out _ _ ⟨bc BK367 0, bc BK367 1, bc BK367 2, bc BK368 0, bc BK368 1, bc BK368 2, bc BK369 0, bc BK369 1, bc BK369 2⟩ (fun hHeld => ?_)
     clear hK K
     refine norm_ (a' := ?_) ?_ ?_
     rotate_left
     ·show Act.put _ (some 10) _ = _
      simp only [Act.put, List.setIfInBounds_toArray, List.set_cons_zero, List.set_cons_succ, i64_w, i32_w]
      rfl
     exact norm_ (by simp only [putAll, Act.put, List.setIfInBounds_toArray, List.set_cons_zero, List.set_cons_succ] <;> rfl) (hJ1_3_5_7_8 (gb395) _ ⟨hHeld, BK367.out, BK368.out, BK369.out, BK382.out, BK395.out, GW395.out, GE395.out, NB367_395.out, NB395_367.out, NB368_395.out, NB395_368.out, NB369_395.out, NB395_369.out, NB382_395.out, NB395_382.out, HB.out⟩)
   rintro gb395 w73 ⟨hS_, h0_, h1_, h2_, h3_, h4_, h5_, h6_, h7_, h8_, h9_, h10_, h11_, h12_, h13_, h14_, h15_⟩
   have n0_ := Aside0.mk h0_
   have n1_ := Aside0.mk h1_
   have n2_ := Aside0.mk h2_
   have n3_ := Aside0.mk h3_
   have n4_ := Aside0.mk h4_
   have n5_ := Aside0.mk h5_
   have n6_ := Aside0.mk h6_
   have n7_ := Aside0.mk h7_
   have n8_ := Aside0.mk h8_
   have n9_ := Aside0.mk h9_
   have n10_ := Aside0.mk h10_
   have n11_ := Aside0.mk h11_
   have n12_ := Aside0.mk h12_
   have n13_ := Aside0.mk h13_
   have n14_ := Aside0.mk h14_
   have n15_ := Aside0.mk h15_
   clear BK367
   clear BK368
   clear BK369
   clear BK382
   clear HB
   clear h0_ h1_ h2_ h3_ h4_ h5_ h6_ h7_ h8_ h9_ h10_ h11_ h12_ h13_ h14_ h15_
   have BK367 := n0_
   have BK368 := n1_
   have BK369 := n2_
   have BK382 := n3_
   have BK395 := n4_
   have GW395 := n5_
   have GE395 := n6_
   have NB367_395 := n7_
   have NB395_367 := n8_
   have NB368_395 := n9_
   have NB395_368 := n10_
   have NB369_395 := n11_
   have NB395_369 := n12_
   have NB382_395 := n13_
   have NB395_382 := n14_
   have HB := n15_
   clear n0_ n1_ n2_ n3_ n4_ n5_ n6_ n7_ n8_ n9_ n10_ n11_ n12_ n13_ n14_ n15_
   have hHeld : u5_S0 a0_0 a0_1 a0_2 a1_0 a1_1 a1_2 a2_0 a2_1 a2_2 gb367 gb368 gb369 w73 := hS_
   refine norm_ (a' := ?_) ?_ ?_
   rotate_left
   ·simp only [putAll, Act.put, List.setIfInBounds_toArray, List.set_cons_zero, List.set_cons_succ]
    rfl
   refine one_ (i := 9) (N := none) #[true, true, true, true, true, true, true, true, true, true] rfl rfl (one_of HT_.out (by kernel_rfl)) (by decide) (fun K hK => ?_)
   have hs74 : w73.cell? ⟨gb395, 0, none⟩ = some (.string (⟨#[]⟩ : ByteArray)) := bc BK395 0
   have hfs74 := blk_frozen BK395.out 0
   have hns74_0 := NB367_395.out
   have hns74_1 := NB368_395.out
   have hns74_2 := NB369_395.out
   have hns74_3 := NB382_395.out
   have hms74_0 := NB395_367.out
   have hms74_1 := NB395_368.out
   have hms74_2 := NB395_369.out
   have hms74_3 := NB395_382.out
   have hs75 : w73.cell? ⟨gb395, 1, none⟩ = some (.string (⟨#[]⟩ : ByteArray)) := bc BK395 1
   have hfs75 := blk_frozen BK395.out 1
   have hns75_0 := NB367_395.out
   have hns75_1 := NB368_395.out
   have hns75_2 := NB369_395.out
   have hns75_3 := NB382_395.out
   have hms75_0 := NB395_367.out
   have hms75_1 := NB395_368.out
   have hms75_2 := NB395_369.out
   have hms75_3 := NB395_382.out
   have hs76 : w73.cell? ⟨gb395, 2, none⟩ = some (.string (⟨#[]⟩ : ByteArray)) := bc BK395 2
   have hfs76 := blk_frozen BK395.out 2
   have hns76_0 := NB367_395.out
   have hns76_1 := NB368_395.out
   have hns76_2 := NB369_395.out
   have hns76_3 := NB382_395.out
   have hms76_0 := NB395_367.out
   have hms76_1 := NB395_368.out
   have hms76_2 := NB395_369.out
   have hms76_3 := NB395_382.out
   refine skip_ (w1 := ?_) (by rfl) rfl ?_ ?_
   rotate_left
   ·go_simp
    rfl
   refine hK.out _ _ ⟨((cell_far (p := ⟨gb395, _, none⟩) NB367_395.out _).trans (((cell_far (p := ⟨gb395, _, none⟩) NB367_395.out _).trans (((cell_far (p := ⟨gb395, _, none⟩) NB367_395.out _).trans (hHeld.1)))))), ((cell_far (p := ⟨gb395, _, none⟩) NB367_395.out _).trans (((cell_far (p := ⟨gb395, _, none⟩) NB367_395.out _).trans (((cell_far (p := ⟨gb395, _, none⟩) NB367_395.out _).trans (hHeld.2.1)))))), ((cell_far (p := ⟨gb395, _, none⟩) NB367_395.out _).trans (((cell_far (p := ⟨gb395, _, none⟩) NB367_395.out _).trans (((cell_far (p := ⟨gb395, _, none⟩) NB367_395.out _).trans (hHeld.2.2.1)))))), ((cell_far (p := ⟨gb395, _, none⟩) NB368_395.out _).trans (((cell_far (p := ⟨gb395, _, none⟩) NB368_395.out _).trans (((cell_far (p := ⟨gb395, _, none⟩) NB368_395.out _).trans (hHeld.2.2.2.1)))))), ((cell_far (p := ⟨gb395, _, none⟩) NB368_395.out _).trans (((cell_far (p := ⟨gb395, _, none⟩) NB368_395.out _).trans (((cell_far (p := ⟨gb395, _, none⟩) NB368_395.out _).trans (hHeld.2.2.2.2.1)))))), ((cell_far (p := ⟨gb395, _, none⟩) NB368_395.out _).trans (((cell_far (p := ⟨gb395, _, none⟩) NB368_395.out _).trans (((cell_far (p := ⟨gb395, _, none⟩) NB368_395.out _).trans (hHeld.2.2.2.2.2.1)))))), ((cell_far (p := ⟨gb395, _, none⟩) NB369_395.out _).trans (((cell_far (p := ⟨gb395, _, none⟩) NB369_395.out _).trans (((cell_far (p := ⟨gb395, _, none⟩) NB369_395.out _).trans (hHeld.2.2.2.2.2.2.1)))))), ((cell_far (p := ⟨gb395, _, none⟩) NB369_395.out _).trans (((cell_far (p := ⟨gb395, _, none⟩) NB369_395.out _).trans (((cell_far (p := ⟨gb395, _, none⟩) NB369_395.out _).trans (hHeld.2.2.2.2.2.2.2.1)))))), ((cell_far (p := ⟨gb395, _, none⟩) NB369_395.out _).trans (((cell_far (p := ⟨gb395, _, none⟩) NB369_395.out _).trans (((cell_far (p := ⟨gb395, _, none⟩) NB369_395.out _).trans (hHeld.2.2.2.2.2.2.2.2))))))⟩ (fun hHeld => ?_)
   clear hK K
   refine done_ (done_of HT_.out (by kernel_rfl)) ?_
   have hnb77 := NB395_367.out
   have hnc77 := NB367_395.out
   have hnb78 := NB395_368.out
   have hnc78 := NB368_395.out
   have hnb79 := NB395_369.out
   have hnc79 := NB369_395.out
   have hnb80 := NB395_382.out
   have hnc80 := NB382_395.out
   have hcz81_0 : w73.cell? ⟨gb395, 0, none⟩ = some (.string (⟨#[]⟩ : ByteArray)) := bc BK395 0
   have hcz81_1 : w73.cell? ⟨gb395, 1, none⟩ = some (.string (⟨#[]⟩ : ByteArray)) := bc BK395 1
   have hcz81_2 : w73.cell? ⟨gb395, 2, none⟩ = some (.string (⟨#[]⟩ : ByteArray)) := bc BK395 2
   have hfz81_0 := blk_frozen BK395.out 0
   have hfz81_1 := blk_frozen BK395.out 1
   have hfz81_2 := blk_frozen BK395.out 2
   have hnb82 := NB382_367.out
   have hnc82 := NB367_382.out
   have hnb83 := NB382_368.out
   have hnc83 := NB368_382.out
   have hnb84 := NB382_369.out
   have hnc84 := NB369_382.out
   have hcz85_0 : w73.cell? ⟨gb382, 0, none⟩ = some (.string t379) := bc BK382 0
   have hcz85_1 : w73.cell? ⟨gb382, 1, none⟩ = some (.string t380) := bc BK382 1
   have hcz85_2 : w73.cell? ⟨gb382, 2, none⟩ = some (.string t381) := bc BK382 2
   have hfz85_0 := blk_frozen BK382.out 0
   have hfz85_1 := blk_frozen BK382.out 1
   have hfz85_2 := blk_frozen BK382.out 2
   try go_wp2_with (first | ((with_reducible refine gate_callee (f := 18) rfl ?_); refine goesL_ (some 32) rfl rfl Tryd.func18 (by kernel_rfl) rfl #[.agg #[.string t392, .string t393, .string t394], .agg #[.string t379, .string t380, .string t381]] rfl (by (try simp only [List.map_toArray, List.map_cons, List.map_nil]); first | done | rfl | (simp only [List.length_drop, List.length_take]; rfl)) ?_; (with_reducible refine (laws_eqKeys.calls t392 t393 t394 t379 t380 t381 false _ A17.out).mono ?_); rintro e w86 ⟨rfl, hb⟩; refine ⟨_, rfl, ?_⟩; have n0_ := Aside0.mk (blk_below (g := gb367) (o := .cells #[.int .u64 a0_0, .int .u64 a0_1, .bool a0_2] 24 (0, 0)) (by (with_reducible repeat (first | refine blk_drewN ?_ _ | refine blk_drew ?_ | refine blk_alloc ?_ _)); refine blk_far ?_ NB367_395.out _; (with_reducible repeat (first | refine blk_drewN ?_ _ | refine blk_drew ?_ | refine blk_alloc ?_ _)); refine blk_far ?_ NB367_395.out _; (with_reducible repeat (first | refine blk_drewN ?_ _ | refine blk_drew ?_ | refine blk_alloc ?_ _)); refine blk_far ?_ NB367_395.out _; (with_reducible repeat (first | refine blk_drewN ?_ _ | refine blk_drew ?_ | refine blk_alloc ?_ _)); exact BK367.out) hb); have n1_ := Aside0.mk (blk_below (g := gb368) (o := .cells #[.int .u64 a1_0, .int .u64 a1_1, .bool a1_2] 24 (0, 0)) (by (with_reducible repeat (first | refine blk_drewN ?_ _ | refine blk_drew ?_ | refine blk_alloc ?_ _)); refine blk_far ?_ NB368_395.out _; (with_reducible repeat (first | refine blk_drewN ?_ _ | refine blk_drew ?_ | refine blk_alloc ?_ _)); refine blk_far ?_ NB368_395.out _; (with_reducible repeat (first | refine blk_drewN ?_ _ | refine blk_drew ?_ | refine blk_alloc ?_ _)); refine blk_far ?_ NB368_395.out _; (with_reducible repeat (first | refine blk_drewN ?_ _ | refine blk_drew ?_ | refine blk_alloc ?_ _)); exact BK368.out) hb); have n2_ := Aside0.mk (blk_below (g := gb369) (o := .cells #[.int .u64 a2_0, .int .u64 a2_1, .bool a2_2] 24 (0, 0)) (by (with_reducible repeat (first | refine blk_drewN ?_ _ | refine blk_drew ?_ | refine blk_alloc ?_ _)); refine blk_far ?_ NB369_395.out _; (with_reducible repeat (first | refine blk_drewN ?_ _ | refine blk_drew ?_ | refine blk_alloc ?_ _)); refine blk_far ?_ NB369_395.out _; (with_reducible repeat (first | refine blk_drewN ?_ _ | refine blk_drew ?_ | refine blk_alloc ?_ _)); refine blk_far ?_ NB369_395.out _; (with_reducible repeat (first | refine blk_drewN ?_ _ | refine blk_drew ?_ | refine blk_alloc ?_ _)); exact BK369.out) hb); have n3_ := Aside0.mk (blk_below (g := gb382) (o := .cells #[.string t379, .string t380, .string t381] 41 (0, 0)) (by (with_reducible repeat (first | refine blk_drewN ?_ _ | refine blk_drew ?_ | refine blk_alloc ?_ _)); refine blk_far ?_ NB382_395.out _; (with_reducible repeat (first | refine blk_drewN ?_ _ | refine blk_drew ?_ | refine blk_alloc ?_ _)); refine blk_far ?_ NB382_395.out _; (with_reducible repeat (first | refine blk_drewN ?_ _ | refine blk_drew ?_ | refine blk_alloc ?_ _)); refine blk_far ?_ NB382_395.out _; (with_reducible repeat (first | refine blk_drewN ?_ _ | refine blk_drew ?_ | refine blk_alloc ?_ _)); exact BK382.out) hb); have n4_ := Aside0.mk (blk_below (g := gb395) (o := .cells #[.string t392, .string t393, .string t394] 41 (0, 0)) (by (with_reducible repeat (first | refine blk_drewN ?_ _ | refine blk_drew ?_ | refine blk_alloc ?_ _)); refine blk_put (cs := #[.string t392, .string t393, .string (⟨#[]⟩ : ByteArray)]) ?_ 2 _ rfl; (with_reducible repeat (first | refine blk_drewN ?_ _ | refine blk_drew ?_ | refine blk_alloc ?_ _)); refine blk_put (cs := #[.string t392, .string (⟨#[]⟩ : ByteArray), .string (⟨#[]⟩ : ByteArray)]) ?_ 1 _ rfl; (with_reducible repeat (first | refine blk_drewN ?_ _ | refine blk_drew ?_ | refine blk_alloc ?_ _)); refine blk_put (cs := #[.string (⟨#[]⟩ : ByteArray), .string (⟨#[]⟩ : ByteArray), .string (⟨#[]⟩ : ByteArray)]) ?_ 0 _ rfl; (with_reducible repeat (first | refine blk_drewN ?_ _ | refine blk_drew ?_ | refine blk_alloc ?_ _)); exact BK395.out) hb); have n5_ := Aside0.mk (below_step (by repeat (first | (with_reducible first | exact HB.out | apply below_alloc | apply pw_below_drewN | apply below_drew1 | refine below_set ?_ GE367.out | refine below_set ?_ GE368.out | refine below_set ?_ GE369.out | refine below_set ?_ GE382.out | refine below_set ?_ GE395.out) | exact HB.out)) hb); clear BK367; clear BK368; clear BK369; clear BK382; clear BK395; clear HB; have BK367 := n0_; have BK368 := n1_; have BK369 := n2_; have BK382 := n3_; have BK395 := n4_; have HB := n5_; clear n0_ n1_ n2_ n3_ n4_ n5_; (try clear hb); (try clear hb2); (try clear hk); (try clear hi)))
   go_ret
   exact ⟨rfl, by repeat (first | (with_reducible first | exact HB.out | apply below_alloc | apply pw_below_drewN | apply below_drew1 | refine below_set ?_ GE367.out | refine below_set ?_ GE368.out | refine below_set ?_ GE369.out | refine below_set ?_ GE382.out | refine below_set ?_ GE395.out) | exact HB.out)⟩

end Go.Proofs.YtjbiklbhelknfaaDoor.P
end
section
namespace Go.Proofs.YtjbiklbhelknfaaDoor.P
open Go.RowKit Go.Proofs.YtjbiklbhelknfaaDoorW.PrintWords Go.Proofs.YtjbiklbhelknfaaDoorW.PrintLast Go.Proofs.YtjbiklbhelknfaaDoorW.PrintMore
set_option linter.unusedVariables false
set_option linter.unusedSimpArgs false
theorem spAdd (a b m : Int) (h0 : 0 ≤ a) (h1 : a < m) (h2 : 0 ≤ b) (h3 : b < m) (h4 : m < 18446744073709551616) : spec_l2Add.f a b m = some ((a + b) % m) := by
  have e1 : IntKind.u64.wrap (m - b) = m - b := by rw [IntKind.wrap_u64]; omega
  unfold spec_l2Add.f
  rw [e1]
  by_cases c : a ≥ m - b
  · rw [if_pos c, IntKind.wrap_u64]
    have e : (a + b) % m = a - (m - b) := by
      rw [show a + b = (a - (m - b)) + m * 1 by omega, Int.add_mul_emod_self_left]
      exact Int.emod_eq_of_lt (by omega) (by omega)
    rw [e]
    congr 1
    omega
  · rw [if_neg c, IntKind.wrap_u64, Int.emod_eq_of_lt (show 0 ≤ a + b by omega) (show a + b < m by omega)]
    congr 1
    omega
end Go.Proofs.YtjbiklbhelknfaaDoor.P
end
section
namespace Go.Proofs.YtjbiklbhelknfaaDoor.P
open Go.RowKit Go.Proofs.YtjbiklbhelknfaaDoorW.PrintWords Go.Proofs.YtjbiklbhelknfaaDoorW.PrintLast Go.Proofs.YtjbiklbhelknfaaDoorW.PrintMore Go.Proofs.YtjbiklbhelknfaaDoor.M
set_option linter.unusedVariables false
set_option linter.unusedSimpArgs false
theorem wrapU (x : Int) (h0 : 0 ≤ x) (h1 : x < 18446744073709551616) : IntKind.u64.wrap x = x := by
  rw [IntKind.wrap_u64, Int.emod_eq_of_lt h0 h1]
theorem mul_lt {a b m n : Int} (ha0 : 0 ≤ a) (ha : a ≤ m) (hb0 : 0 ≤ b) (hb : b ≤ n) : 0 ≤ a * b ∧ a * b ≤ m * n :=
  ⟨Int.mul_nonneg ha0 hb0, Int.mul_le_mul ha hb hb0 (Int.le_trans ha0 ha)⟩
theorem split_mul (a b : Int) : a * b = (a / 4294967296 * (b / 4294967296)) * 18446744073709551616 + (a / 4294967296 * (b % 4294967296) + a % 4294967296 * (b / 4294967296)) * 4294967296 + a % 4294967296 * (b % 4294967296) := by
  have ha : a = a / 4294967296 * 4294967296 + a % 4294967296 := by omega
  have hb : b = b / 4294967296 * 4294967296 + b % 4294967296 := by omega
  generalize a / 4294967296 = x at *
  generalize a % 4294967296 = y at *
  generalize b / 4294967296 = z at *
  generalize b % 4294967296 = t at *
  subst ha hb
  grind
theorem imMul64 (a b : Int) (ha0 : 0 ≤ a) (ha : a < 18446744073709551616) (hb0 : 0 ≤ b) (hb : b < 18446744073709551616) : bits_Mul64.f a b = some (a * b / 18446744073709551616, a * b % 18446744073709551616) := by
  unfold bits_Mul64.f
  rw [and_low ha0 (by omega), and_low hb0 (by omega)]
  have e := split_mul a b
  obtain ⟨A0, A1⟩ := mul_lt (a := a % 4294967296) (b := b % 4294967296) (m := 4294967295) (n := 4294967295) (by omega) (by omega) (by omega) (by omega)
  obtain ⟨B0, B1⟩ := mul_lt (a := a / 4294967296) (b := b % 4294967296) (m := 4294967295) (n := 4294967295) (by omega) (by omega) (by omega) (by omega)
  obtain ⟨C0, C1⟩ := mul_lt (a := a % 4294967296) (b := b / 4294967296) (m := 4294967295) (n := 4294967295) (by omega) (by omega) (by omega) (by omega)
  obtain ⟨D0, D1⟩ := mul_lt (a := a / 4294967296) (b := b / 4294967296) (m := 4294967295) (n := 4294967295) (by omega) (by omega) (by omega) (by omega)
  generalize a * b = Z at *
  generalize a % 4294967296 * (b % 4294967296) = A at *
  generalize a / 4294967296 * (b % 4294967296) = B at *
  generalize a % 4294967296 * (b / 4294967296) = C at *
  generalize a / 4294967296 * (b / 4294967296) = D at *
  have T : IntKind.u64.wrap (IntKind.u64.wrap B + IntKind.u64.wrap A / 4294967296) = B + A / 4294967296 := by
    rw [wrapU A (by omega) (by omega), wrapU B (by omega) (by omega), wrapU _ (by omega) (by omega)]
  rw [T, and_low (by omega) (by omega), wrapU C (by omega) (by omega), wrapU D (by omega) (by omega), wrapU ((B + A / 4294967296) % 4294967296 + C) (by omega) (by omega), wrapU (D + (B + A / 4294967296) / 4294967296) (by omega) (by omega), wrapU _ (by omega) (by omega), IntKind.wrap_u64]
  congr 2
  omega
theorem imMulMod (a b m : Int) (ha0 : 0 ≤ a) (ha : a < 18446744073709551616) (hb0 : 0 ≤ b) (hb : b < 18446744073709551616) (hm : 0 < m) (h4 : m < 18446744073709551616) : impl_MulMod.f a b m = some (a * b % m) := by
  unfold impl_MulMod.f
  rw [if_neg (by omega), imMul64 a b ha0 ha hb0 hb, Option.bind_some]
  have h0 : 0 ≤ a * b := Int.mul_nonneg ha0 hb0
  dsimp only
  rw [Int.tmod_eq_emod_of_nonneg (by omega)]
  unfold bits_Div64.f
  have r1 := Int.emod_nonneg (a * b / 18446744073709551616) (show m ≠ 0 by omega)
  have r2 := Int.emod_lt_of_pos (a * b / 18446744073709551616) hm
  rw [if_pos ⟨r1, r2, h4, by omega, by omega⟩, Option.bind_some]
  congr 1
  show (a * b / 18446744073709551616 % m * 18446744073709551616 + a * b % 18446744073709551616) % m = a * b % m
  have e : a * b = a * b / 18446744073709551616 * 18446744073709551616 + a * b % 18446744073709551616 := by omega
  generalize a * b / 18446744073709551616 = q at *
  generalize a * b % 18446744073709551616 = r at *
  rw [e, Int.add_emod, Int.mul_emod, Int.emod_emod_of_dvd _ (Int.dvd_refl m), ← Int.mul_emod, ← Int.add_emod]
theorem imTimes (a b : Int) (ha0 : 0 ≤ a) (ha : a < 18446744073709551616) (hb0 : 0 ≤ b) (hb : b < 18446744073709551616) : impl_num_impl_fieldP_times.f a b = some (a * b % 2305843009213693951) := by
  unfold impl_num_impl_fieldP_times.f impl_prime_impl_fieldP.f
  rw [Option.bind_some, imMulMod a b _ ha0 ha hb0 hb (by omega) (by omega), Option.bind_some]
theorem imPlus (a b : Int) (ha0 : 0 ≤ a) (ha : a < 2305843009213693951) (hb0 : 0 ≤ b) (hb : b < 2305843009213693951) : impl_num_impl_fieldP_plus.f a b = some ((a + b) % 2305843009213693951) := by
  unfold impl_num_impl_fieldP_plus.f impl_prime_impl_fieldP.f
  rw [Option.bind_some, wrapU (a + b) (by omega) (by omega)]
  by_cases c : a + b ≥ 2305843009213693951
  · rw [if_pos c, wrapU _ (by omega) (by omega)]; congr 1; omega
  · rw [if_neg c]; congr 1; omega
theorem imNeg (a : Int) (ha0 : 0 ≤ a) (ha : a < 2305843009213693951) : impl_num_impl_fieldP_negative.f a = some ((-a) % 2305843009213693951) := by
  unfold impl_num_impl_fieldP_negative.f impl_prime_impl_fieldP.f
  by_cases c : a = 0
  · rw [if_pos c, c]; rfl
  · rw [if_neg c, Option.bind_some, wrapU _ (by omega) (by omega)]; congr 1; omega
theorem imMinus (a b : Int) (ha0 : 0 ≤ a) (ha : a < 2305843009213693951) (hb0 : 0 ≤ b) (hb : b < 2305843009213693951) : impl_num_impl_fieldP_minus.f a b = some ((a - b) % 2305843009213693951) := by
  unfold impl_num_impl_fieldP_minus.f
  rw [imNeg b hb0 hb, Option.bind_some, imPlus a _ ha0 ha (by omega) (by omega), Option.bind_some]
  congr 1
  omega
theorem spTimes (a b : Int) (ha0 : 0 ≤ a) (ha : a < 2305843009213693951) (hb0 : 0 ≤ b) (hb : b < 2305843009213693951) : spec_l2Times.f a b = some (a * b % 2305843009213693951) := by
  unfold spec_l2Times.f
  have e := split_mul a b
  have hZm := (mul_lt (a := a) (b := b) (m := 2305843009213693950) (n := 2305843009213693950) ha0 (by omega) hb0 (by omega)).2
  have t1 : IntKind.u64.wrap (Int.tdiv a 4294967296) = a / 4294967296 := by rw [Int.tdiv_eq_ediv_of_nonneg ha0, wrapU _ (by omega) (by omega)]
  have t2 : IntKind.u64.wrap (Int.tdiv b 4294967296) = b / 4294967296 := by rw [Int.tdiv_eq_ediv_of_nonneg hb0, wrapU _ (by omega) (by omega)]
  have t3 : Int.tmod a 4294967296 = a % 4294967296 := Int.tmod_eq_emod_of_nonneg ha0
  have t4 : Int.tmod b 4294967296 = b % 4294967296 := Int.tmod_eq_emod_of_nonneg hb0
  rw [t1, t2, t3, t4]
  obtain ⟨A0, A1⟩ := mul_lt (a := a % 4294967296) (b := b % 4294967296) (m := 4294967295) (n := 4294967295) (by omega) (by omega) (by omega) (by omega)
  obtain ⟨B0, B1⟩ := mul_lt (a := a / 4294967296) (b := b % 4294967296) (m := 536870911) (n := 4294967295) (by omega) (by omega) (by omega) (by omega)
  obtain ⟨C0, C1⟩ := mul_lt (a := a % 4294967296) (b := b / 4294967296) (m := 4294967295) (n := 536870911) (by omega) (by omega) (by omega) (by omega)
  obtain ⟨D0, D1⟩ := mul_lt (a := a / 4294967296) (b := b / 4294967296) (m := 536870911) (n := 536870911) (by omega) (by omega) (by omega) (by omega)
  generalize a * b = Z at *
  generalize a % 4294967296 * (b % 4294967296) = A at *
  generalize a / 4294967296 * (b % 4294967296) = B at *
  generalize a % 4294967296 * (b / 4294967296) = C at *
  generalize a / 4294967296 * (b / 4294967296) = D at *
  have s1 : IntKind.u64.wrap (IntKind.u64.wrap B + IntKind.u64.wrap (Int.tdiv (IntKind.u64.wrap A) 4294967296)) = B + A / 4294967296 := by
    rw [wrapU A (by omega) (by omega), wrapU B (by omega) (by omega), Int.tdiv_eq_ediv_of_nonneg A0, wrapU (A / 4294967296) (by omega) (by omega), wrapU _ (by omega) (by omega)]
  rw [s1]
  have s2 : IntKind.u64.wrap (IntKind.u64.wrap C + Int.tmod (B + A / 4294967296) 4294967296) = C + (B + A / 4294967296) % 4294967296 := by
    rw [wrapU C (by omega) (by omega), Int.tmod_eq_emod_of_nonneg (by omega), wrapU _ (by omega) (by omega)]
  rw [s2]
  have s3 : IntKind.u64.wrap (Int.tdiv (B + A / 4294967296) 4294967296) = (B + A / 4294967296) / 4294967296 := by
    rw [Int.tdiv_eq_ediv_of_nonneg (by omega), wrapU _ (by omega) (by omega)]
  have s4 : IntKind.u64.wrap (Int.tdiv (C + (B + A / 4294967296) % 4294967296) 4294967296) = (C + (B + A / 4294967296) % 4294967296) / 4294967296 := by
    rw [Int.tdiv_eq_ediv_of_nonneg (by omega), wrapU _ (by omega) (by omega)]
  have s5 : Int.tmod (IntKind.u64.wrap A) 4294967296 = A % 4294967296 := by rw [wrapU A (by omega) (by omega), Int.tmod_eq_emod_of_nonneg A0]
  rw [s3, s4, s5, wrapU D (by omega) (by omega)]
  have s6 : IntKind.u64.wrap (IntKind.u64.wrap ((C + (B + A / 4294967296) % 4294967296) * 4294967296) + A % 4294967296) = Z % 18446744073709551616 := by
    rw [IntKind.wrap_u64, IntKind.wrap_u64]; omega
  rw [s6]
  have s7 : IntKind.u64.wrap (IntKind.u64.wrap (D + (B + A / 4294967296) / 4294967296) + (C + (B + A / 4294967296) % 4294967296) / 4294967296) = Z / 18446744073709551616 := by
    rw [wrapU (D + (B + A / 4294967296) / 4294967296) (by omega) (by omega), wrapU _ (by omega) (by omega)]; omega
  rw [s7]
  have hZ0 : 0 ≤ Z := by omega
  have hZ1 : Z < 5316911983139663491615228241121378304 := by omega
  have s8 : IntKind.u64.wrap (IntKind.u64.wrap (Z / 18446744073709551616 * 8) + IntKind.u64.wrap (Int.tdiv (Z % 18446744073709551616) 2305843009213693952)) = Z / 2305843009213693952 := by
    rw [Int.tdiv_eq_ediv_of_nonneg (by omega), wrapU (Z / 18446744073709551616 * 8) (by omega) (by omega), wrapU (Z % 18446744073709551616 / 2305843009213693952) (by omega) (by omega), wrapU _ (by omega) (by omega)]
    omega
  have s9 : Int.tmod (Int.tmod (Z % 18446744073709551616) 2305843009213693952) 2305843009213693951 = Z % 2305843009213693952 % 2305843009213693951 := by
    rw [Int.tmod_eq_emod_of_nonneg (show 0 ≤ Z % 18446744073709551616 by omega), Int.tmod_eq_emod_of_nonneg (by omega)]
    congr 1
    omega
  rw [s8, s9]
  have hq : Z / 2305843009213693952 < 2305843009213693951 := by omega
  rw [spAdd _ _ _ (by omega) hq (by omega) (by omega) (by omega), Option.bind_some]
  congr 1
  omega
theorem spSub (a b : Int) (ha0 : 0 ≤ a) (ha : a < 2305843009213693951) (hb0 : 0 ≤ b) (hb : b < 2305843009213693951) : spec_l3Minus.f a b = some ((a - b) % 2305843009213693951) := by
  unfold spec_l3Minus.f
  rw [wrapU _ (by omega) (by omega), Int.tmod_eq_emod_of_nonneg (by omega), spAdd _ _ _ ha0 ha (by omega) (by omega) (by omega), Option.bind_some]
  congr 1
  omega
def rhs (x : Int) : Int := (x * x * x - 3 * x + 111) % 2305843009213693951
theorem modP (x : Int) : 0 ≤ x % 2305843009213693951 ∧ x % 2305843009213693951 < 2305843009213693951 := by omega
theorem spRight (x : Int) (h0 : 0 ≤ x) (h : x < 2305843009213693951) : spec_l3Right.f x = some (rhs x) := by
  unfold spec_l3Right.f
  rw [spTimes x x h0 h h0 h, Option.bind_some]
  have p1 := modP (x * x)
  rw [spTimes _ x p1.1 p1.2 h0 h, Option.bind_some, spTimes 3 x (by omega) (by omega) h0 h, Option.bind_some]
  have p2 := modP (x * x % 2305843009213693951 * x)
  have p3 := modP (3 * x)
  rw [spSub _ _ p2.1 p2.2 p3.1 p3.2, Option.bind_some]
  have p4 := modP (x * x % 2305843009213693951 * x % 2305843009213693951 - 3 * x % 2305843009213693951)
  rw [spAdd _ _ _ p4.1 p4.2 (by omega) (by omega) (by omega), Option.bind_some]
  congr 1
  refine mod_eq_of_fz ?_
  simp only [fz_add, fz_sub, fz_mul, fz_mod]
theorem imCurveAt (x : Int) (h0 : 0 ≤ x) (h : x < 2305843009213693951) : impl_curveAt.f x = some (rhs x) := by
  unfold impl_curveAt.f
  rw [imTimes x x h0 (by omega) h0 (by omega), Option.bind_some]
  have p1 := modP (x * x)
  rw [imMinus _ 3 p1.1 p1.2 (by omega) (by omega), Option.bind_some]
  have p2 := modP (x * x % 2305843009213693951 - 3)
  rw [imTimes _ x p2.1 (by omega) h0 (by omega), Option.bind_some]
  have p3 := modP ((x * x % 2305843009213693951 - 3) % 2305843009213693951 * x)
  rw [imPlus _ 111 p3.1 p3.2 (by omega) (by omega), Option.bind_some]
  congr 1
  refine mod_eq_of_fz ?_
  simp only [fz_add, fz_sub, fz_mul, fz_mod]
  generalize fz x = X
  generalize fz 3 = T
  generalize fz 111 = B
  grobner
end Go.Proofs.YtjbiklbhelknfaaDoor.P
end
