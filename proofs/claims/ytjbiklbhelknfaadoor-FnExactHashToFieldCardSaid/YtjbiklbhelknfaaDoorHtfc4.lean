/- HashToField of the program returns what the reference's returns, at every argument. Conditions: those of each theorem. Part 4 of 4. -/
import Derived.Test.YtjbiklbhelknfaaDoorHtfc1
import Derived.Test.YtjbiklbhelknfaaDoorHtfc3
import Derived.Test.YtjbiklbhelknfaaDoorHtfc2
import Derived.Test.YtjbiklbhelknfaaDoorCards
import Derived.Test.YtjbiklbhelknfaaDoorTie
import Derived.WalkKit
import Derived.ProofKit
import Derived.OpenShut
import Derived.ShutString
import Derived.ChangeOld
import Derived.ChangeVars
import Derived.Below
import Derived.SizedLaws
import Derived.WalkSmall
import Derived.Deep.DeepHandedRow
import Derived.Lib.LaidTab
section
namespace Go.Proofs.YtjbiklbhelknfaaDoor.P
open Go.RowKit Go.Proofs.YtjbiklbhelknfaaDoorW.PrintWords Go.Proofs.YtjbiklbhelknfaaDoorW.PrintLast Go.Proofs.YtjbiklbhelknfaaDoorW.PrintMore
attribute [local go_sem] max2_int min2_int max_two min_two max_three min_three max_four min_four
set_option linter.unusedVariables false
set_option linter.unusedSimpArgs false

/-! ### spec_Reduce: function 25 -/
mutual
def spec_Reduce.j0 : Nat → ByteArray → Int → Bool → Option (Int)
  | 0, _, _, _ => none
  | k + 1, x0, x1, x14 => if x14 = true then (some 0) else (spec_Reduce.l0 k x0 x1 0 0)
def spec_Reduce.l0 : Nat → ByteArray → Int → Int → Int → Option (Int)
  | 0, _, _, _, _ => none
  | k + 1, x0, x1, x5, x6 => if x6 < (x0.size : Int) then (spec_Reduce.l1 k x0 x1 x5 x6 7) else (some x5)
def spec_Reduce.l1 : Nat → ByteArray → Int → Int → Int → Int → Option (Int)
  | 0, _, _, _, _, _ => none
  | k + 1, x0, x1, x5, x6, x7 => if x7 ≥ 0 then ((spec_l2Add.f x5 x5 x1).bind fun t202 => (if 0 ≤ x6 then (if x6 < (x0.size : Int) then (if 0 ≤ (IntKind.u64.wrap (x7)) then (if (Int.tmod (shr .u8 (bt x0 x6) (IntKind.u64.wrap (x7))) 2) = 1 then (if x1 = 0 then (none) else ((spec_l2Add.f t202 ((1 : Int) % x1) x1).bind fun t203 => (spec_Reduce.l1 k x0 x1 t203 x6 (wrap64 (x7 - 1))))) else (spec_Reduce.l1 k x0 x1 t202 x6 (wrap64 (x7 - 1)))) else (none)) else (none)) else (none))) else (spec_Reduce.l0 k x0 x1 x5 (wrap64 (x6 + 1)))
end
def spec_Reduce.f (k : Nat) (a0 : ByteArray) (a1 : Int) : Option (Int) := if a1 = 0 then (spec_Reduce.j0 k a0 a1 true) else (spec_Reduce.j0 k a0 a1 (decide ((a0.size : Int) > 65535)))
theorem spec_Reduce.mono_l : ∀ k, (∀ y0 y1 y2, LeO (spec_Reduce.j0 k y0 y1 y2) (spec_Reduce.j0 (k + 1) y0 y1 y2)) ∧ (∀ y0 y1 y2 y3, LeO (spec_Reduce.l0 k y0 y1 y2 y3) (spec_Reduce.l0 (k + 1) y0 y1 y2 y3)) ∧ (∀ y0 y1 y2 y3 y4, LeO (spec_Reduce.l1 k y0 y1 y2 y3 y4) (spec_Reduce.l1 (k + 1) y0 y1 y2 y3 y4))
  | 0 => ⟨fun _ _ _ r h => by simp [spec_Reduce.j0] at h, fun _ _ _ _ r h => by simp [spec_Reduce.l0] at h, fun _ _ _ _ _ r h => by simp [spec_Reduce.l1] at h⟩
  | k + 1 => by
    obtain ⟨ih0, ih1, ih2⟩ := spec_Reduce.mono_l k
    refine ⟨?_, ?_, ?_⟩
    · intro y0 y1 y2
      unfold spec_Reduce.j0
      repeat' first
      | (with_reducible exact ih0 _ _ _)
      | (with_reducible exact ih1 _ _ _ _)
      | (with_reducible exact ih2 _ _ _ _ _)
      | (with_reducible exact LeO.refl _)
      | (with_reducible exact LeO.none _)
      | (with_reducible refine LeO.ite ?_ ?_)
      | (with_reducible refine LeO.bind ?_ (fun _ => ?_))
      | exact ih0 _ _ _
      | exact ih1 _ _ _ _
      | exact ih2 _ _ _ _ _
      | exact LeO.none _
      | refine LeO.ite ?_ ?_
      | refine LeO.bind ?_ (fun _ => ?_)
    · intro y0 y1 y2 y3
      unfold spec_Reduce.l0
      repeat' first
      | (with_reducible exact ih0 _ _ _)
      | (with_reducible exact ih1 _ _ _ _)
      | (with_reducible exact ih2 _ _ _ _ _)
      | (with_reducible exact LeO.refl _)
      | (with_reducible exact LeO.none _)
      | (with_reducible refine LeO.ite ?_ ?_)
      | (with_reducible refine LeO.bind ?_ (fun _ => ?_))
      | exact ih0 _ _ _
      | exact ih1 _ _ _ _
      | exact ih2 _ _ _ _ _
      | exact LeO.none _
      | refine LeO.ite ?_ ?_
      | refine LeO.bind ?_ (fun _ => ?_)
    · intro y0 y1 y2 y3 y4
      unfold spec_Reduce.l1
      repeat' first
      | (with_reducible exact ih0 _ _ _)
      | (with_reducible exact ih1 _ _ _ _)
      | (with_reducible exact ih2 _ _ _ _ _)
      | (with_reducible exact LeO.refl _)
      | (with_reducible exact LeO.none _)
      | (with_reducible refine LeO.ite ?_ ?_)
      | (with_reducible refine LeO.bind ?_ (fun _ => ?_))
      | exact ih0 _ _ _
      | exact ih1 _ _ _ _
      | exact ih2 _ _ _ _ _
      | exact LeO.none _
      | refine LeO.ite ?_ ?_
      | refine LeO.bind ?_ (fun _ => ?_)
theorem spec_Reduce.mono : ∀ a0 a1 k, LeO (spec_Reduce.f k a0 a1) (spec_Reduce.f (k + 1) a0 a1) := by
  intro a0 a1 k
  obtain ⟨ih0, ih1, ih2⟩ := spec_Reduce.mono_l k
  unfold spec_Reduce.f
  repeat' first
      | (with_reducible exact ih0 _ _ _)
      | (with_reducible exact ih1 _ _ _ _)
      | (with_reducible exact ih2 _ _ _ _ _)
      | (with_reducible exact LeO.refl _)
      | (with_reducible exact LeO.none _)
      | (with_reducible refine LeO.ite ?_ ?_)
      | (with_reducible refine LeO.bind ?_ (fun _ => ?_))
      | exact ih0 _ _ _
      | exact ih1 _ _ _ _
      | exact ih2 _ _ _ _ _
      | exact LeO.none _
      | refine LeO.ite ?_ ?_
      | refine LeO.bind ?_ (fun _ => ?_)
set_option maxHeartbeats 8000000 in
set_option maxRecDepth 100000 in
theorem spec_Reduce.calls (k : Nat) (a0 : ByteArray) (a1 : Int) (r : Int) (w : World) (h : spec_Reduce.f k a0 a1 = some r) :
    Calls Tryd.prog 25 #[.string a0, .int .u64 a1] w fun e w' => e = .returned (.int .u64 r) ∧ Drawn0 w w' := by
  have H : (if a1 = 0 then (spec_Reduce.j0 k a0 a1 true) else (spec_Reduce.j0 k a0 a1 (decide ((a0.size : Int) > 65535)))) = some r := h
  clear h
  have HC3 := Aside0.mk H
  clear H
  go_enter Tryd.func25, Tryd.ntmps25
  go_upto_region 1 with (fail)
  go_cut [14] (fun v14 wc => ∃ (kq : Nat) (x14_2 : Bool), v14 = .bool x14_2 ∧ Aside0 (spec_Reduce.j0 kq a0 a1 x14_2 = some r) ∧ Aside0 (kq ≤ k) ∧ Drawn0 w wc)
  case first =>
    have H := HC3.out
    clear HC3
    by_cases c4 : a1 = 0
    · rw [if_pos c4] at H
      have c4b0 : (a1 == 0) = true := beq_iff_eq.mpr c4
      have c4b1 : (a1 != 0) = false := bne_eq_false_iff_eq.mpr c4
      clear c4
      (first | rw [c4b0] | (simp only [i64_w, i32_w]; rw [c4b0]) | skip)
      have H' := Aside0.mk H
      clear H
      go_wp2
      go_meet
      case rel => exact ⟨_, (true), (by first | rfl | (simp; done) | (simp [*]; done)), H', ⟨by first | omega | exact Nat.le_refl _⟩, by repeat (first | exact Drawn0.refl _ | apply Drawn0.step)⟩
    · rw [if_neg c4] at H
      have c4b0 : (a1 == 0) = false := beq_eq_false_iff_ne.mpr c4
      have c4b1 : (a1 != 0) = true := bne_iff_ne.mpr c4
      (first | rw [c4b0] | (simp only [i64_w, i32_w]; rw [c4b0]) | skip)
      have H' := Aside0.mk H
      clear H
      go_wp2
      go_meet
      case rel => exact ⟨_, (decide ((a0.size : Int) > 65535)), (by first | rfl | (simp; done) | (simp [*]; done)), H', ⟨by first | omega | exact Nat.le_refl _⟩, by repeat (first | exact Drawn0.refl _ | apply Drawn0.step)⟩
  case rest =>
    clear HC3
    try clear c2
    try clear p2
    try clear c4
    try clear c4b0
    try clear c4b1
    obtain ⟨kq, x14_2, rfl, HA, HJ2, ⟨mc2, rfl⟩⟩ := hcut
    cases kq with
    | zero => exact absurd HA.out (by simp [spec_Reduce.j0])
    | succ kj2 =>
      have H := HA.out
      clear HA
      simp only [spec_Reduce.j0] at H
      by_cases c5 : x14_2 = true
      · subst c5
        have H1 : (some 0) = some r := by rw [if_pos rfl] at H; exact H
        clear H
        have H := H1
        clear H1
        obtain rfl := Option.some.inj H
        go_wp2
        go_ret
        exact ⟨by first | rfl | (simp; done) | (simp [*]; done), by repeat (first | exact Drawn0.refl _ | apply Drawn0.step)⟩
      · replace c5 := Bool.eq_false_iff.mpr c5
        subst c5
        have H1 : (spec_Reduce.l0 kj2 a0 a1 0 0) = some r := by rw [if_neg (show ¬ (false = true) by decide)] at H; exact H
        clear H
        have H := H1
        clear H1
        have H' := Aside0.mk H
        clear H
        go_wp2
        go_loopg [5, 6] kj2 (fun kq v5 v6 w' => ∃ (x5_2 : Int) (x6_2 : Int), v5 = .int .u64 x5_2 ∧ v6 = .int .i64 x6_2 ∧ Aside0 (spec_Reduce.l0 kq a0 a1 x5_2 x6_2 = some r) ∧ Aside0 (kq ≤ kj2) ∧ Drawn0 w w')
        case atStart => exact ⟨(0), (0), (by first | rfl | (simp; done) | (simp [*]; done)), (by first | rfl | (simp; done) | (simp [*]; done)), H', ⟨Nat.le_refl _⟩, by repeat (first | exact Drawn0.refl _ | apply Drawn0.step)⟩
        case round =>
          clear H'
          try clear c2
          try clear p2
          try clear c4
          try clear c4b0
          try clear c4b1
          try clear c5
          try clear p2
          obtain ⟨x5_2, x6_2, rfl, rfl, HA, HK2, ⟨m2, rfl⟩⟩ := hrel
          cases gk with
          | zero => exact absurd HA.out (by simp [spec_Reduce.l0])
          | succ k2 =>
            have H := HA.out
            clear HA
            simp only [spec_Reduce.l0] at H
            by_cases c6 : x6_2 < (a0.size : Int)
            · rw [if_pos c6] at H
              have c6b0 : decide (x6_2 < (a0.size : Int)) = true := decide_eq_true c6
              clear c6
              have H' := Aside0.mk H
              clear H
              go_wp2
              go_loopg [5, 7] k2 (fun kq v5 v7 w' => ∃ (x5_3 : Int) (x7_3 : Int), v5 = .int .u64 x5_3 ∧ v7 = .int .i64 x7_3 ∧ Aside0 (spec_Reduce.l1 kq a0 a1 x5_3 x6_2 x7_3 = some r) ∧ Aside0 (kq ≤ k2) ∧ Drawn0 w w')
              case atStart => exact ⟨(x5_2), (7), (by first | rfl | (simp; done) | (simp [*]; done)), (by first | rfl | (simp; done) | (simp [*]; done)), H', ⟨Nat.le_refl _⟩, by repeat (first | exact Drawn0.refl _ | apply Drawn0.step)⟩
              case round =>
                clear H'
                try clear c2
                try clear p2
                try clear c4
                try clear c4b0
                try clear c4b1
                try clear c5
                try clear c6
                try clear c6b0
                try clear p2
                obtain ⟨x5_3, x7_3, rfl, rfl, HA, HK3, ⟨m3, rfl⟩⟩ := hrel
                cases gk with
                | zero => exact absurd HA.out (by simp [spec_Reduce.l1])
                | succ k3 =>
                  have H := HA.out
                  clear HA
                  simp only [spec_Reduce.l1] at H
                  by_cases c7 : x7_3 ≥ 0
                  · rw [if_pos c7] at H
                    have c7b0 : decide (0 ≤ x7_3) = true := decide_eq_true c7
                    clear c7
                    replace H := Option.bind_eq_some_iff.mp H
                    obtain ⟨t202, A80, H⟩ := H
                    replace H : (if 0 ≤ x6_2 then (if x6_2 < (a0.size : Int) then (if 0 ≤ (IntKind.u64.wrap (x7_3)) then (if (Int.tmod (shr .u8 (bt a0 x6_2) (IntKind.u64.wrap (x7_3))) 2) = 1 then (if a1 = 0 then (none) else ((spec_l2Add.f t202 ((1 : Int) % a1) a1).bind fun t203 => (spec_Reduce.l1 k3 a0 a1 t203 x6_2 (wrap64 (x7_3 - 1))))) else (spec_Reduce.l1 k3 a0 a1 t202 x6_2 (wrap64 (x7_3 - 1)))) else (none)) else (none)) else (none)) = some r := H
                    have A8 := Aside0.mk A80
                    clear A80
                    by_cases c9 : 0 ≤ x6_2
                    · rw [if_pos c9] at H
                      have c9b0 : decide (0 ≤ x6_2) = true := decide_eq_true c9
                      clear c9
                      by_cases c10 : x6_2 < (a0.size : Int)
                      · rw [if_pos c10] at H
                        have c10b0 : decide (x6_2 < (a0.size : Int)) = true := decide_eq_true c10
                        clear c10
                        obtain ⟨ji12, hji12⟩ : ∃ j_ : Int, (IntKind.u64.wrap (x7_3)) = j_ := ⟨_, rfl⟩
                        replace H : (if 0 ≤ (ji12) then (if (Int.tmod (shr .u8 (bt a0 x6_2) (ji12)) 2) = 1 then (if a1 = 0 then (none) else ((spec_l2Add.f t202 ((1 : Int) % a1) a1).bind fun t203 => (spec_Reduce.l1 k3 a0 a1 t203 x6_2 (wrap64 (x7_3 - 1))))) else (spec_Reduce.l1 k3 a0 a1 t202 x6_2 (wrap64 (x7_3 - 1)))) else (none)) = some r := by first | (rw [hji12] at H; exact H) | (simp only [hji12] at H ⊢; exact H)
                        (try rw [hji12] at A8)
                        by_cases c13 : 0 ≤ (ji12)
                        · rw [if_pos c13] at H
                          have c13b0 := eq_true c13
                          have c13b1 : decide (0 ≤ (ji12)) = true := decide_eq_true c13
                          clear c13
                          obtain ⟨ji14, hji14⟩ : ∃ j_ : Int, (shr .u8 (bt a0 x6_2) (ji12)) = j_ := ⟨_, rfl⟩
                          replace H : (if (Int.tmod (ji14) 2) = 1 then (if a1 = 0 then (none) else ((spec_l2Add.f t202 ((1 : Int) % a1) a1).bind fun t203 => (spec_Reduce.l1 k3 a0 a1 t203 x6_2 (wrap64 (x7_3 - 1))))) else (spec_Reduce.l1 k3 a0 a1 t202 x6_2 (wrap64 (x7_3 - 1)))) = some r := by first | (rw [hji14] at H; exact H) | (simp only [hji14] at H ⊢; exact H)
                          (try rw [hji14] at A8)
                          have hji14_ : ((bt a0 x6_2) / 2 ^ min (ji12).toNat 8) = ji14 := hji14
                          have hji14z : (ji12) ≤ 8 → ((bt a0 x6_2) / 2 ^ (ji12).toNat) = ji14 := shr_small hji14
                          by_cases c15 : (Int.tmod (ji14) 2) = 1
                          · rw [if_pos c15] at H
                            have c15b0 : ((Int.tmod (ji14) 2) == 1) = true := beq_iff_eq.mpr c15
                            have c15b1 : ((Int.tmod (ji14) 2) != 1) = false := bne_eq_false_iff_eq.mpr c15
                            clear c15
                            by_cases c16 : a1 = 0
                            · rw [if_pos c16] at H
                              exact absurd H (by simp)
                            · rw [if_neg c16] at H
                              have c16b0 : (a1 == 0) = false := beq_eq_false_iff_ne.mpr c16
                              have c16b1 : (a1 != 0) = true := bne_iff_ne.mpr c16
                              replace H := Option.bind_eq_some_iff.mp H
                              obtain ⟨t203, A170, H⟩ := H
                              replace H : (spec_Reduce.l1 k3 a0 a1 t203 x6_2 (wrap64 (x7_3 - 1))) = some r := H
                              have A17 := Aside0.mk A170
                              clear A170
                              have H' := Aside0.mk H
                              clear H
                              go_wp2_with (first | ((with_reducible refine gate_callee (f := 48) rfl ?_); refine goesL_ (some 28) rfl rfl Tryd.func48 (by kernel_rfl) rfl #[.int .u64 x5_3, .int .u64 x5_3, .int .u64 a1] rfl (by (try simp only [List.map_toArray, List.map_cons, List.map_nil]); first | done | rfl | (simp only [List.length_drop, List.length_take]; rfl)) ?_; (with_reducible refine (spec_l2Add.calls x5_3 x5_3 a1 t202 _ A8.out).mono ?_); rintro e w' ⟨rfl, ⟨nd, rfl⟩⟩; refine ⟨_, rfl, ?_⟩; have p11 : 0 ≤ (x6_2 : Int) := of_decide_eq_true (by first | (with_reducible assumption) | assumption); have q11 : x6_2 < (a0.size : Int) := of_decide_eq_true (by first | (with_reducible assumption) | assumption); have hx11 := bt_at a0 x6_2; replace p11 := eq_true p11; replace q11 := eq_true q11) | ((with_reducible refine gate_callee (f := 48) rfl ?_); refine goesL_ (some 41) rfl rfl Tryd.func48 (by kernel_rfl) rfl #[.int .u64 t202, .int .u64 ((1 : Int) % a1), .int .u64 a1] rfl (by (try simp only [List.map_toArray, List.map_cons, List.map_nil]); first | done | rfl | (simp only [List.length_drop, List.length_take]; rfl)) ?_; (with_reducible refine (spec_l2Add.calls t202 ((1 : Int) % a1) a1 t203 _ A17.out).mono ?_); rintro e w' ⟨rfl, ⟨nd, rfl⟩⟩; refine ⟨_, rfl, ?_⟩))
                              go_roundg k3
                              case measure => have := HJ2.out; have := HK2.out; have := HK3.out; omega
                              case rel => exact ⟨(t203), (wrap64 (x7_3 - 1)), (by first | rfl | (simp; done) | (simp [*]; done)), (by first | rfl | (simp; done) | (simp [*]; done)), H', ⟨by have := HJ2.out; have := HK2.out; have := HK3.out; omega⟩, by repeat (first | exact Drawn0.refl _ | apply Drawn0.step)⟩
                          · rw [if_neg c15] at H
                            have c15b0 : ((Int.tmod (ji14) 2) == 1) = false := beq_eq_false_iff_ne.mpr c15
                            have c15b1 : ((Int.tmod (ji14) 2) != 1) = true := bne_iff_ne.mpr c15
                            have H' := Aside0.mk H
                            clear H
                            go_wp2_with (first | ((with_reducible refine gate_callee (f := 48) rfl ?_); refine goesL_ (some 28) rfl rfl Tryd.func48 (by kernel_rfl) rfl #[.int .u64 x5_3, .int .u64 x5_3, .int .u64 a1] rfl (by (try simp only [List.map_toArray, List.map_cons, List.map_nil]); first | done | rfl | (simp only [List.length_drop, List.length_take]; rfl)) ?_; (with_reducible refine (spec_l2Add.calls x5_3 x5_3 a1 t202 _ A8.out).mono ?_); rintro e w' ⟨rfl, ⟨nd, rfl⟩⟩; refine ⟨_, rfl, ?_⟩; have p11 : 0 ≤ (x6_2 : Int) := of_decide_eq_true (by first | (with_reducible assumption) | assumption); have q11 : x6_2 < (a0.size : Int) := of_decide_eq_true (by first | (with_reducible assumption) | assumption); have hx11 := bt_at a0 x6_2; replace p11 := eq_true p11; replace q11 := eq_true q11))
                            go_roundg k3
                            case measure => have := HJ2.out; have := HK2.out; have := HK3.out; omega
                            case rel => exact ⟨(t202), (wrap64 (x7_3 - 1)), (by first | rfl | (simp; done) | (simp [*]; done)), (by first | rfl | (simp; done) | (simp [*]; done)), H', ⟨by have := HJ2.out; have := HK2.out; have := HK3.out; omega⟩, by repeat (first | exact Drawn0.refl _ | apply Drawn0.step)⟩
                        · rw [if_neg c13] at H
                          exact absurd H (by simp)
                      · rw [if_neg c10] at H
                        exact absurd H (by simp)
                    · rw [if_neg c9] at H
                      exact absurd H (by simp)
                  · rw [if_neg c7] at H
                    have c7b0 : decide (0 ≤ x7_3) = false := decide_eq_false c7
                    clear c7
                    have H' := Aside0.mk H
                    clear H
                    go_wp2
                    go_roundg k3
                    case measure => have := HJ2.out; have := HK2.out; have := HK3.out; omega
                    case rel => exact ⟨(x5_3), (wrap64 (x6_2 + 1)), (by first | rfl | (simp; done) | (simp [*]; done)), (by first | rfl | (simp; done) | (simp [*]; done)), H', ⟨by have := HJ2.out; have := HK2.out; have := HK3.out; omega⟩, by repeat (first | exact Drawn0.refl _ | apply Drawn0.step)⟩
            · rw [if_neg c6] at H
              have c6b0 : decide (x6_2 < (a0.size : Int)) = false := decide_eq_false c6
              clear c6
              obtain rfl := Option.some.inj H
              go_wp2
              go_ret
              exact ⟨by first | rfl | (simp; done) | (simp [*]; done), by repeat (first | exact Drawn0.refl _ | apply Drawn0.step)⟩

end Go.Proofs.YtjbiklbhelknfaaDoor.P
end
section
namespace Go.Proofs.YtjbiklbhelknfaaDoor.P
open Go.RowKit Go.Proofs.YtjbiklbhelknfaaDoorW.PrintWords Go.Proofs.YtjbiklbhelknfaaDoorW.PrintLast Go.Proofs.YtjbiklbhelknfaaDoorW.PrintMore
attribute [local go_sem] max2_int min2_int max_two min_two max_three min_three max_four min_four
set_option linter.unusedVariables false
set_option linter.unusedSimpArgs false

/-! ### spec_HashToField: function 10 -/
mutual
def spec_HashToField.j0 : Nat → ByteArray → ByteArray → Int → Int → List Int → Bool → Option (List Int × Bool)
  | 0, _, _, _, _, _, _ => none
  | k + 1, x0, x1, x2, x3, x10, x24 => if x24 = true then (some (x10, false)) else ((spec_ExpandMessage.f k x0 x1 (wrap64 (24 * x3))).bind fun bt207 => (spec_HashToField.l0 k x2 x3 x10 bt207.1 bt207.2 0))
def spec_HashToField.l0 : Nat → Int → Int → List Int → ByteArray → Bool → Int → Option (List Int × Bool)
  | 0, _, _, _, _, _, _ => none
  | k + 1, x2, x3, x10, x11, x12, x13 => if x13 < x3 then (if x12 = true then (if 0 ≤ (wrap64 (24 * x13)) then (if (wrap64 (24 * x13)) ≤ (wrap64 ((wrap64 (24 * x13)) + 24)) then (if (wrap64 ((wrap64 (24 * x13)) + 24)) ≤ (x11.size : Int) then ((spec_Reduce.f k (x11.extract ((wrap64 (24 * x13)) : Int).toNat ((wrap64 ((wrap64 (24 * x13)) + 24)) : Int).toNat) x2).bind fun t209 => (if x10.length < 17592186044416 then (spec_HashToField.l0 k x2 x3 (x10 ++ [t209]) x11 x12 (wrap64 (x13 + 1))) else (none))) else (none)) else (none)) else (none)) else (some (x10, x12))) else (some (x10, x12))
end
def spec_HashToField.f (k : Nat) (a0 : ByteArray) (a1 : ByteArray) (a2 : Int) (a3 : Int) : Option (List Int × Bool) := (some (([] : List Int) : List Int)).bind fun y204 => (if a3 < 1 then (spec_HashToField.j0 k a0 a1 a2 a3 y204 true) else (if a3 > 340 then (spec_HashToField.j0 k a0 a1 a2 a3 y204 true) else (spec_HashToField.j0 k a0 a1 a2 a3 y204 (a2 == 0))))
theorem spec_HashToField.mono_l : ∀ k, (∀ y0 y1 y2 y3 y4 y5, LeO (spec_HashToField.j0 k y0 y1 y2 y3 y4 y5) (spec_HashToField.j0 (k + 1) y0 y1 y2 y3 y4 y5)) ∧ (∀ y0 y1 y2 y3 y4 y5, LeO (spec_HashToField.l0 k y0 y1 y2 y3 y4 y5) (spec_HashToField.l0 (k + 1) y0 y1 y2 y3 y4 y5))
  | 0 => ⟨fun _ _ _ _ _ _ r h => by simp [spec_HashToField.j0] at h, fun _ _ _ _ _ _ r h => by simp [spec_HashToField.l0] at h⟩
  | k + 1 => by
    obtain ⟨ih0, ih1⟩ := spec_HashToField.mono_l k
    refine ⟨?_, ?_⟩
    · intro y0 y1 y2 y3 y4 y5
      unfold spec_HashToField.j0
      repeat' first
      | (with_reducible exact ih0 _ _ _ _ _ _)
      | (with_reducible exact ih1 _ _ _ _ _ _)
      | (with_reducible exact spec_ExpandMessage.mono _ _ _ _)
      | (with_reducible exact spec_Reduce.mono _ _ _)
      | (with_reducible exact LeO.refl _)
      | (with_reducible exact LeO.none _)
      | (with_reducible refine LeO.ite ?_ ?_)
      | (with_reducible refine LeO.bind ?_ (fun _ => ?_))
      | exact ih0 _ _ _ _ _ _
      | exact ih1 _ _ _ _ _ _
      | exact spec_ExpandMessage.mono _ _ _ _
      | exact spec_Reduce.mono _ _ _
      | exact LeO.none _
      | refine LeO.ite ?_ ?_
      | refine LeO.bind ?_ (fun _ => ?_)
    · intro y0 y1 y2 y3 y4 y5
      unfold spec_HashToField.l0
      repeat' first
      | (with_reducible exact ih0 _ _ _ _ _ _)
      | (with_reducible exact ih1 _ _ _ _ _ _)
      | (with_reducible exact spec_ExpandMessage.mono _ _ _ _)
      | (with_reducible exact spec_Reduce.mono _ _ _)
      | (with_reducible exact LeO.refl _)
      | (with_reducible exact LeO.none _)
      | (with_reducible refine LeO.ite ?_ ?_)
      | (with_reducible refine LeO.bind ?_ (fun _ => ?_))
      | exact ih0 _ _ _ _ _ _
      | exact ih1 _ _ _ _ _ _
      | exact spec_ExpandMessage.mono _ _ _ _
      | exact spec_Reduce.mono _ _ _
      | exact LeO.none _
      | refine LeO.ite ?_ ?_
      | refine LeO.bind ?_ (fun _ => ?_)
theorem spec_HashToField.mono : ∀ a0 a1 a2 a3 k, LeO (spec_HashToField.f k a0 a1 a2 a3) (spec_HashToField.f (k + 1) a0 a1 a2 a3) := by
  intro a0 a1 a2 a3 k
  obtain ⟨ih0, ih1⟩ := spec_HashToField.mono_l k
  unfold spec_HashToField.f
  repeat' first
      | (with_reducible exact ih0 _ _ _ _ _ _)
      | (with_reducible exact ih1 _ _ _ _ _ _)
      | (with_reducible exact spec_ExpandMessage.mono _ _ _ _)
      | (with_reducible exact spec_Reduce.mono _ _ _)
      | (with_reducible exact LeO.refl _)
      | (with_reducible exact LeO.none _)
      | (with_reducible refine LeO.ite ?_ ?_)
      | (with_reducible refine LeO.bind ?_ (fun _ => ?_))
      | exact ih0 _ _ _ _ _ _
      | exact ih1 _ _ _ _ _ _
      | exact spec_ExpandMessage.mono _ _ _ _
      | exact spec_Reduce.mono _ _ _
      | exact LeO.none _
      | refine LeO.ite ?_ ?_
      | refine LeO.bind ?_ (fun _ => ?_)
set_option maxHeartbeats 8000000 in
set_option maxRecDepth 100000 in
theorem spec_HashToField.calls (k : Nat) (a0 : ByteArray) (a1 : ByteArray) (a2 : Int) (a3 : Int) (r1 : List Int) (r2 : Bool) (w : World) (h : spec_HashToField.f k a0 a1 a2 a3 = some (r1, r2)) :
    Calls Tryd.prog 10 #[.string a0, .string a1, .int .u64 a2, .int .i64 a3] w fun e w' => ∃ v0_ : Value, e = .returned (.tuple #[v0_, .bool r2]) ∧ Kd.R (Kd.int .u64) 22 w' w.heap.size (fun _ => True) v0_ r1 ∧ Below w.heap.size w w' := by
  have HB := Aside0.mk (Below.refl w.heap.size w)
  have H : ((some (([] : List Int) : List Int)).bind fun y204 => (if a3 < 1 then (spec_HashToField.j0 k a0 a1 a2 a3 y204 true) else (if a3 > 340 then (spec_HashToField.j0 k a0 a1 a2 a3 y204 true) else (spec_HashToField.j0 k a0 a1 a2 a3 y204 (a2 == 0))))) = some (r1, r2) := h
  clear h
  obtain ⟨y204, hy204⟩ : ∃ y_ : List Int, y_ = (([] : List Int)) := ⟨_, rfl⟩
  replace H : (if a3 < 1 then (spec_HashToField.j0 k a0 a1 a2 a3 y204 true) else (if a3 > 340 then (spec_HashToField.j0 k a0 a1 a2 a3 y204 true) else (spec_HashToField.j0 k a0 a1 a2 a3 y204 (a2 == 0)))) = some (r1, r2) := by first | (rw [hy204]; with_reducible exact H) | (have H2_ := (Option.bind_some _ _).symm.trans H; rw [hy204]; with_reducible exact H2_) | (have H2_ := (Option.bind_some _ _).symm.trans H; with_reducible exact H2_) | with_reducible exact H | (rw [hy204]; exact H) | exact H
  have Ny204 := Aside0.mk hy204
  clear hy204
  have HC5 := Aside0.mk H
  clear H
  go_enter Tryd.func10, Tryd.ntmps10
  go_upto_region 2 with (first | ((with_reducible refine gate_dst (N := 14) rfl ?_); refine Kd.R_lit (Kd.int .u64) _ 22 ?hg (N := 14) ?hd (xs := ([] : List Int)) (inner := []) (ok := fun _ => True) (okp := fun _ => True) ?hr ?hp (fun _ hk => hk) trivial (Below.refl _ _) (Nat.le_refl _) (by simp) ?_; (case hd => rfl); (case hg => rfl); (case hr => first | (go_simp; done) | (go_simp; rfl)); (case hp => exact (Reps.none _ _)); intro v205 w6 ho7 hb hg_ hnew_; clear hg_ hnew_; (first | rw [← Ny204.out] at ho7 | (simp only [Int.reduceToNat] at ho7; rw [← Ny204.out] at ho7)); have n0_ := Aside0.mk (Kd.R_lower ho7 (below_size (by repeat (first | (with_reducible first | exact HB.out | apply below_alloc | apply pw_below_drewN | apply below_drew1) | exact HB.out)))); have n1_ := Aside0.mk (below_step (by repeat (first | (with_reducible first | exact HB.out | apply below_alloc | apply pw_below_drewN | apply below_drew1) | exact HB.out)) hb); clear HB; have HO206 := n0_; have HB := n1_; clear n0_ n1_; clear hb ho7))
  (try simp only [Act.put, List.setIfInBounds_toArray, List.set_cons_zero, List.set_cons_succ])
  go_cut [24] (fun v24 wc => ∃ (kq : Nat) (x24_4 : Bool), v24 = .bool x24_4 ∧ Aside0 (spec_HashToField.j0 kq a0 a1 a2 a3 y204 x24_4 = some (r1, r2)) ∧ Aside0 (kq ≤ k) ∧ Aside0 (Kd.R (Kd.int .u64) 22 wc w.heap.size (fun _ => True) v205 y204) ∧ Aside0 (Below w.heap.size w wc))
  case first =>
    have H := HC5.out
    clear HC5
    by_cases c8 : a3 < 1
    · rw [if_pos c8] at H
      have c8b0 : decide (a3 < 1) = true := decide_eq_true c8
      clear c8
      (first | rw [c8b0] | (simp only [i64_w, i32_w]; rw [c8b0]) | skip)
      have H' := Aside0.mk H
      clear H
      go_wp2
      go_meet
      case rel => exact ⟨_, (true), (by first | rfl | (simp; done) | (simp [*]; done)), H', ⟨by first | omega | exact Nat.le_refl _⟩, ⟨by (with_reducible repeat (first | apply Kd.R_alloc | apply Kd.R_drewN | apply Kd.R_drew)); exact HO206.out⟩, ⟨by repeat (first | (with_reducible first | exact HB.out | apply below_alloc | apply pw_below_drewN | apply below_drew1) | exact HB.out)⟩⟩
    · rw [if_neg c8] at H
      have c8b0 : decide (a3 < 1) = false := decide_eq_false c8
      clear c8
      (first | rw [c8b0] | (simp only [i64_w, i32_w]; rw [c8b0]) | skip)
      by_cases c9 : a3 > 340
      · rw [if_pos c9] at H
        have c9b0 : decide (340 < a3) = true := decide_eq_true c9
        clear c9
        have H' := Aside0.mk H
        clear H
        go_wp2
        go_meet
        case rel => exact ⟨_, (true), (by first | rfl | (simp; done) | (simp [*]; done)), H', ⟨by first | omega | exact Nat.le_refl _⟩, ⟨by (with_reducible repeat (first | apply Kd.R_alloc | apply Kd.R_drewN | apply Kd.R_drew)); exact HO206.out⟩, ⟨by repeat (first | (with_reducible first | exact HB.out | apply below_alloc | apply pw_below_drewN | apply below_drew1) | exact HB.out)⟩⟩
      · rw [if_neg c9] at H
        have c9b0 : decide (340 < a3) = false := decide_eq_false c9
        clear c9
        have H' := Aside0.mk H
        clear H
        go_wp2
        go_meet
        case rel => exact ⟨_, ((a2 == 0)), (by first | rfl | (simp; done) | (simp [*]; done)), H', ⟨by first | omega | exact Nat.le_refl _⟩, ⟨by (with_reducible repeat (first | apply Kd.R_alloc | apply Kd.R_drewN | apply Kd.R_drew)); exact HO206.out⟩, ⟨by repeat (first | (with_reducible first | exact HB.out | apply below_alloc | apply pw_below_drewN | apply below_drew1) | exact HB.out)⟩⟩
  case rest =>
    clear HC5
    try clear c1
    try clear p2
    try clear c8
    try clear c8b0
    try clear c9
    try clear c9b0
    obtain ⟨kq, x24_4, rfl, HA, HJ4, HO_10, HB⟩ := hcut
    cases kq with
    | zero => exact absurd HA.out (by simp [spec_HashToField.j0])
    | succ kj4 =>
      have H := HA.out
      clear HA
      simp only [spec_HashToField.j0] at H
      by_cases c10 : x24_4 = true
      · subst c10
        have H1 : (some (y204, false)) = some (r1, r2) := by rw [if_pos rfl] at H; exact H
        clear H
        have H := H1
        clear H1
        simp only [Option.some.injEq, Prod.mk.injEq] at H
        obtain ⟨rfl, rfl⟩ := H
        go_wp2
        go_ret2
        exact ⟨_, by first | rfl | (simp [errW_none, errW_some] <;> rfl) | (simp [*, errW_none, errW_some] <;> rfl), by (with_reducible repeat (first | apply Kd.R_alloc | apply Kd.R_drewN | apply Kd.R_drew)); exact HO_10.out, by repeat (first | (with_reducible first | exact HB.out | apply below_alloc | apply pw_below_drewN | apply below_drew1) | exact HB.out)⟩
      · replace c10 := Bool.eq_false_iff.mpr c10
        subst c10
        have H1 : ((spec_ExpandMessage.f kj4 a0 a1 (wrap64 (24 * a3))).bind fun bt207 => (spec_HashToField.l0 kj4 a2 a3 y204 bt207.1 bt207.2 0)) = some (r1, r2) := by rw [if_neg (show ¬ (false = true) by decide)] at H; exact H
        clear H
        have H := H1
        clear H1
        replace H := Option.bind_eq_some_iff.mp H
        obtain ⟨⟨t207, t208⟩, A110, H⟩ := H
        replace H : (spec_HashToField.l0 kj4 a2 a3 y204 t207 t208 0) = some (r1, r2) := H
        have A11 := Aside0.mk A110
        clear A110
        have H' := Aside0.mk H
        clear H
        go_wp2_with (first | ((with_reducible refine gate_callee (f := 24) rfl ?_); refine goesL_ (some 31) rfl rfl Tryd.func24 (by kernel_rfl) rfl #[.string a0, .string a1, .int .i64 (wrap64 (24 * a3))] rfl (by (try simp only [List.map_toArray, List.map_cons, List.map_nil]); first | done | rfl | (simp only [List.length_drop, List.length_take]; rfl)) ?_; (with_reducible refine (spec_ExpandMessage.calls kj4 a0 a1 (wrap64 (24 * a3)) t207 t208 _ A11.out).mono ?_); rintro e w12 ⟨rfl, hb⟩; refine ⟨_, rfl, ?_⟩; have n0_ := Aside0.mk (Kd.R_below (by (with_reducible repeat (first | apply Kd.R_alloc | apply Kd.R_drewN | apply Kd.R_drew)); exact HO_10.out) hb); have n1_ := Aside0.mk (below_step (by repeat (first | (with_reducible first | exact HB.out | apply below_alloc | apply pw_below_drewN | apply below_drew1) | exact HB.out)) hb); clear HO_10; clear HB; have HO_10 := n0_; have HB := n1_; clear n0_ n1_; (try clear hb); (try clear hb2); (try clear hk); (try clear hi)))
        go_loopg [10, 13] kj4 (fun kq v10 v13 w' => ∃ (x10_2 : List Int) (x13_2 : Int), v13 = .int .i64 x13_2 ∧ Aside0 (spec_HashToField.l0 kq a2 a3 x10_2 t207 t208 x13_2 = some (r1, r2)) ∧ Aside0 (kq ≤ kj4) ∧ Aside0 (Kd.R (Kd.int .u64) 22 w' w.heap.size (fun _ => True) v10 x10_2) ∧ Aside0 (Below w.heap.size w w'))
        case atStart => exact ⟨(y204), (0), (by first | rfl | (simp; done) | (simp [*]; done)), H', ⟨Nat.le_refl _⟩, ⟨by (with_reducible repeat (first | apply Kd.R_alloc | apply Kd.R_drewN | apply Kd.R_drew)); exact HO_10.out⟩, ⟨by repeat (first | (with_reducible first | exact HB.out | apply below_alloc | apply pw_below_drewN | apply below_drew1) | exact HB.out)⟩⟩
        case round =>
          clear H'
          try clear c1
          try clear c2
          try clear p2
          try clear p6
          try clear c8
          try clear c8b0
          try clear c9
          try clear c9b0
          try clear c10
          try clear p2
          obtain ⟨x10_2, x13_2, rfl, HA, HK2, HO_10, HB⟩ := hrel
          cases gk with
          | zero => exact absurd HA.out (by simp [spec_HashToField.l0])
          | succ k2 =>
            have H := HA.out
            clear HA
            simp only [spec_HashToField.l0] at H
            by_cases c13 : x13_2 < a3
            · rw [if_pos c13] at H
              have c13b0 : decide (x13_2 < a3) = true := decide_eq_true c13
              clear c13
              by_cases c14 : t208 = true
              · subst c14
                have H1 : (if 0 ≤ (wrap64 (24 * x13_2)) then (if (wrap64 (24 * x13_2)) ≤ (wrap64 ((wrap64 (24 * x13_2)) + 24)) then (if (wrap64 ((wrap64 (24 * x13_2)) + 24)) ≤ (t207.size : Int) then ((spec_Reduce.f k2 (t207.extract ((wrap64 (24 * x13_2)) : Int).toNat ((wrap64 ((wrap64 (24 * x13_2)) + 24)) : Int).toNat) a2).bind fun t209 => (if x10_2.length < 17592186044416 then (spec_HashToField.l0 k2 a2 a3 (x10_2 ++ [t209]) t207 true (wrap64 (x13_2 + 1))) else (none))) else (none)) else (none)) else (none)) = some (r1, r2) := by rw [if_pos rfl] at H; exact H
                clear H
                have H := H1
                clear H1
                obtain ⟨ji15, hji15⟩ : ∃ j_ : Int, (wrap64 (24 * x13_2)) = j_ := ⟨_, rfl⟩
                replace H : (if 0 ≤ (ji15) then (if (ji15) ≤ (wrap64 ((ji15) + 24)) then (if (wrap64 ((ji15) + 24)) ≤ (t207.size : Int) then ((spec_Reduce.f k2 (t207.extract ((ji15) : Int).toNat ((wrap64 ((ji15) + 24)) : Int).toNat) a2).bind fun t209 => (if x10_2.length < 17592186044416 then (spec_HashToField.l0 k2 a2 a3 (x10_2 ++ [t209]) t207 true (wrap64 (x13_2 + 1))) else (none))) else (none)) else (none)) else (none)) = some (r1, r2) := by first | (rw [hji15] at H; exact H) | (simp only [hji15] at H ⊢; exact H)
                have hji15w : (IntKind.i64.wrap (24 * x13_2)) = ji15 := (i64_w _).trans hji15
                by_cases c16 : 0 ≤ (ji15)
                · rw [if_pos c16] at H
                  have c16b0 := eq_true c16
                  have c16b1 : decide (0 ≤ (ji15)) = true := decide_eq_true c16
                  clear c16
                  by_cases c17 : (ji15) ≤ (wrap64 ((ji15) + 24))
                  · rw [if_pos c17] at H
                    have c17b0 := eq_true c17
                    have c17b1 : decide ((ji15) ≤ (wrap64 ((ji15) + 24))) = true := decide_eq_true c17
                    by_cases c18 : (wrap64 ((ji15) + 24)) ≤ (t207.size : Int)
                    · rw [if_pos c18] at H
                      have c18b0 := eq_true c18
                      have c18b1 : decide ((wrap64 ((ji15) + 24)) ≤ (t207.size : Int)) = true := decide_eq_true c18
                      replace H := Option.bind_eq_some_iff.mp H
                      obtain ⟨t209, A190, H⟩ := H
                      replace H : (if x10_2.length < 17592186044416 then (spec_HashToField.l0 k2 a2 a3 (x10_2 ++ [t209]) t207 true (wrap64 (x13_2 + 1))) else (none)) = some (r1, r2) := H
                      have A19 := Aside0.mk A190
                      clear A190
                      by_cases c20 : x10_2.length < 17592186044416
                      · rw [if_pos c20] at H
                        have LMc20 := Aside0.mk c20
                        clear c20
                        obtain ⟨y210, hy210⟩ : ∃ y_ : List Int, y_ = (x10_2 ++ [t209]) := ⟨_, rfl⟩
                        replace H : (spec_HashToField.l0 k2 a2 a3 y210 t207 true (wrap64 (x13_2 + 1))) = some (r1, r2) := by first | (rw [hy210]; with_reducible exact H) | (have H2_ := (Option.bind_some _ _).symm.trans H; rw [hy210]; with_reducible exact H2_) | (have H2_ := (Option.bind_some _ _).symm.trans H; with_reducible exact H2_) | with_reducible exact H | (rw [hy210]; exact H) | exact H
                        have Ny210 := Aside0.mk hy210
                        clear hy210
                        have H' := Aside0.mk H
                        clear H
                        go_wp2_with (first | ((with_reducible refine gate_callee (f := 25) rfl ?_); refine goesL_ (some 51) rfl rfl Tryd.func25 (by kernel_rfl) rfl #[.string (t207.extract ((ji15) : Int).toNat ((wrap64 ((ji15) + 24)) : Int).toNat), .int .u64 a2] rfl (by (try simp only [List.map_toArray, List.map_cons, List.map_nil]); first | done | (simp only [hji15]; rfl) | rfl | (simp only [List.length_drop, List.length_take]; rfl)) ?_; (with_reducible refine (spec_Reduce.calls k2 (t207.extract ((ji15) : Int).toNat ((wrap64 ((ji15) + 24)) : Int).toNat) a2 t209 _ A19.out).mono ?_); rintro e w' ⟨rfl, ⟨nd, rfl⟩⟩; refine ⟨_, rfl, ?_⟩) | ((with_reducible refine gate_builtin (b := .append) (xs := #[.tmp 42, .tmp 52]) rfl ?_); at_builtin; refine Kd.R_append (Kd.int .u64) (w0 := w) w.heap.size rfl (.tmp 42) (.tmp 52) 34 22 (.int .u64 0) 8 rfl Tryd.underlying34 info22 rfl (by decide) (by omega) u10 x10_2 t209 [.int .u64 t209] (fun _ => True) (fun _ => False) rfl rfl ?aP (fun _ hk => hk.elim) ?aF ?aO ?aB ?aS ?aL ?_; (case aP => exact rfl); (case aB => exact (by repeat (first | (with_reducible first | exact HB.out | apply below_alloc | apply pw_below_drewN | apply below_drew1) | exact HB.out))); (case aF => exact (fun _ _ => trivial)); (case aO => exact (by (with_reducible repeat (first | apply Kd.R_alloc | apply Kd.R_drewN | apply Kd.R_drew)); exact HO_10.out)); (case aS => exact (below_size (by repeat (first | (with_reducible first | exact HB.out | apply below_alloc | apply pw_below_drewN | apply below_drew1) | exact HB.out)))); (case aL => have := LMc20.out; omega); intro v211 w21 ho hb hg hat; rw [← Ny210.out] at ho; have n0_ := Aside0.mk (hb); have n1_ := Aside0.mk (ho); clear HB; clear HO_10; have HB := n0_; have HO212 := n1_; clear n0_ n1_; clear ho hb hg hat))
                        go_roundg k2
                        case measure => have := HJ4.out; have := HK2.out; omega
                        case rel => exact ⟨(y210), (wrap64 (x13_2 + 1)), (by first | rfl | (simp; done) | (simp [*]; done)), H', ⟨by have := HJ4.out; have := HK2.out; omega⟩, ⟨by (with_reducible repeat (first | apply Kd.R_alloc | apply Kd.R_drewN | apply Kd.R_drew)); exact HO212.out⟩, ⟨by repeat (first | (with_reducible first | exact HB.out | apply below_alloc | apply pw_below_drewN | apply below_drew1) | exact HB.out)⟩⟩
                      · rw [if_neg c20] at H
                        exact absurd H (by simp)
                    · rw [if_neg c18] at H
                      exact absurd H (by simp)
                  · rw [if_neg c17] at H
                    exact absurd H (by simp)
                · rw [if_neg c16] at H
                  exact absurd H (by simp)
              · replace c14 := Bool.eq_false_iff.mpr c14
                subst c14
                have H1 : (some (x10_2, false)) = some (r1, r2) := by rw [if_neg (show ¬ (false = true) by decide)] at H; exact H
                clear H
                have H := H1
                clear H1
                simp only [Option.some.injEq, Prod.mk.injEq] at H
                obtain ⟨rfl, rfl⟩ := H
                go_wp2
                go_ret2
                exact ⟨_, by first | rfl | (simp [errW_none, errW_some] <;> rfl) | (simp [*, errW_none, errW_some] <;> rfl), by (with_reducible repeat (first | apply Kd.R_alloc | apply Kd.R_drewN | apply Kd.R_drew)); exact HO_10.out, by repeat (first | (with_reducible first | exact HB.out | apply below_alloc | apply pw_below_drewN | apply below_drew1) | exact HB.out)⟩
            · rw [if_neg c13] at H
              have c13b0 : decide (x13_2 < a3) = false := decide_eq_false c13
              clear c13
              simp only [Option.some.injEq, Prod.mk.injEq] at H
              obtain ⟨rfl, rfl⟩ := H
              go_wp2
              go_ret2
              exact ⟨_, by first | rfl | (simp [errW_none, errW_some] <;> rfl) | (simp [*, errW_none, errW_some] <;> rfl), by (with_reducible repeat (first | apply Kd.R_alloc | apply Kd.R_drewN | apply Kd.R_drew)); exact HO_10.out, by repeat (first | (with_reducible first | exact HB.out | apply below_alloc | apply pw_below_drewN | apply below_drew1) | exact HB.out)⟩

end Go.Proofs.YtjbiklbhelknfaaDoor.P
end
section
namespace Go.Proofs.YtjbiklbhelknfaaDoor.P
open Go.RowKit Go.Proofs.YtjbiklbhelknfaaDoorW.PrintWords Go.Proofs.YtjbiklbhelknfaaDoorW.PrintLast Go.Proofs.YtjbiklbhelknfaaDoorW.PrintMore
attribute [local go_sem] max2_int min2_int max_two min_two max_three min_three max_four min_four
set_option linter.unusedVariables false
set_option linter.unusedSimpArgs false

/-! ### laws_FnExactHashToField: function 4 -/
mutual
def laws_FnExactHashToField.j0 : Nat → ByteArray → ByteArray → Int → Int → List Int → Bool → List Int → Bool → Option (Bool)
  | 0, _, _, _, _, _, _, _, _ => none
  | k + 1, x0, x1, x2, x3, x9, x10, x11, x47 => if x47 = true then (some false) else ((laws_markUint64S.f k x11 1).bind fun bt234 => ((laws_heldUint64S.f k bt234.2 1).bind fun t236 => (if t236 < 0 then (some false) else (if t236 = bt234.1 then ((impl_HashToField.f k x0 x1 x2 x3).bind fun bt237 => ((laws_eqUint64S.f k bt237.1 x9).bind fun t241 => (if t241 = true then (laws_FnExactHashToField.j1 k bt234.2 bt234.1 (bt237.2 != x10)) else (laws_FnExactHashToField.j1 k bt234.2 bt234.1 true)))) else (some false)))))
def laws_FnExactHashToField.j1 : Nat → List Int → Int → Bool → Option (Bool)
  | 0, _, _, _ => none
  | k + 1, x11, x13, x75 => if x75 = true then (some false) else ((laws_heldUint64S.f k x11 1).bind fun t242 => (if t242 < 0 then (some false) else (if t242 = x13 then (some true) else (some false))))
end
def laws_FnExactHashToField.f (k : Nat) (a0 : ByteArray) (a1 : ByteArray) (a2 : Int) (a3 : Int) : Option (Bool) := if (a0.size : Int) > 1048576 then (some true) else (if (a1.size : Int) > 1048576 then (some true) else ((spec_HashToField.f k a0 a1 a2 a3).bind fun bt225 => ((impl_HashToField.f k a0 a1 a2 a3).bind fun bt229 => ((laws_eqUint64S.f k bt229.1 bt225.1).bind fun t233 => (if t233 = true then (laws_FnExactHashToField.j0 k a0 a1 a2 a3 bt225.1 bt225.2 bt229.1 (bt229.2 != bt225.2)) else (laws_FnExactHashToField.j0 k a0 a1 a2 a3 bt225.1 bt225.2 bt229.1 true))))))
theorem laws_FnExactHashToField.mono_l : ∀ k, (∀ y0 y1 y2 y3 y4 y5 y6 y7, LeO (laws_FnExactHashToField.j0 k y0 y1 y2 y3 y4 y5 y6 y7) (laws_FnExactHashToField.j0 (k + 1) y0 y1 y2 y3 y4 y5 y6 y7)) ∧ (∀ y0 y1 y2, LeO (laws_FnExactHashToField.j1 k y0 y1 y2) (laws_FnExactHashToField.j1 (k + 1) y0 y1 y2))
  | 0 => ⟨fun _ _ _ _ _ _ _ _ r h => by simp [laws_FnExactHashToField.j0] at h, fun _ _ _ r h => by simp [laws_FnExactHashToField.j1] at h⟩
  | k + 1 => by
    obtain ⟨ih0, ih1⟩ := laws_FnExactHashToField.mono_l k
    refine ⟨?_, ?_⟩
    · intro y0 y1 y2 y3 y4 y5 y6 y7
      unfold laws_FnExactHashToField.j0
      repeat' first
      | (with_reducible exact ih0 _ _ _ _ _ _ _ _)
      | (with_reducible exact ih1 _ _ _)
      | (with_reducible exact impl_HashToField.mono _ _ _ _ _)
      | (with_reducible exact laws_eqUint64S.mono _ _ _)
      | (with_reducible exact laws_heldUint64S.mono _ _ _)
      | (with_reducible exact laws_markUint64S.mono _ _ _)
      | (with_reducible exact spec_HashToField.mono _ _ _ _ _)
      | (with_reducible exact LeO.refl _)
      | (with_reducible exact LeO.none _)
      | (with_reducible refine LeO.ite ?_ ?_)
      | (with_reducible refine LeO.bind ?_ (fun _ => ?_))
      | exact ih0 _ _ _ _ _ _ _ _
      | exact ih1 _ _ _
      | exact impl_HashToField.mono _ _ _ _ _
      | exact laws_eqUint64S.mono _ _ _
      | exact laws_heldUint64S.mono _ _ _
      | exact laws_markUint64S.mono _ _ _
      | exact spec_HashToField.mono _ _ _ _ _
      | exact LeO.none _
      | refine LeO.ite ?_ ?_
      | refine LeO.bind ?_ (fun _ => ?_)
    · intro y0 y1 y2
      unfold laws_FnExactHashToField.j1
      repeat' first
      | (with_reducible exact ih0 _ _ _ _ _ _ _ _)
      | (with_reducible exact ih1 _ _ _)
      | (with_reducible exact impl_HashToField.mono _ _ _ _ _)
      | (with_reducible exact laws_eqUint64S.mono _ _ _)
      | (with_reducible exact laws_heldUint64S.mono _ _ _)
      | (with_reducible exact laws_markUint64S.mono _ _ _)
      | (with_reducible exact spec_HashToField.mono _ _ _ _ _)
      | (with_reducible exact LeO.refl _)
      | (with_reducible exact LeO.none _)
      | (with_reducible refine LeO.ite ?_ ?_)
      | (with_reducible refine LeO.bind ?_ (fun _ => ?_))
      | exact ih0 _ _ _ _ _ _ _ _
      | exact ih1 _ _ _
      | exact impl_HashToField.mono _ _ _ _ _
      | exact laws_eqUint64S.mono _ _ _
      | exact laws_heldUint64S.mono _ _ _
      | exact laws_markUint64S.mono _ _ _
      | exact spec_HashToField.mono _ _ _ _ _
      | exact LeO.none _
      | refine LeO.ite ?_ ?_
      | refine LeO.bind ?_ (fun _ => ?_)
theorem laws_FnExactHashToField.mono : ∀ a0 a1 a2 a3 k, LeO (laws_FnExactHashToField.f k a0 a1 a2 a3) (laws_FnExactHashToField.f (k + 1) a0 a1 a2 a3) := by
  intro a0 a1 a2 a3 k
  obtain ⟨ih0, ih1⟩ := laws_FnExactHashToField.mono_l k
  unfold laws_FnExactHashToField.f
  repeat' first
      | (with_reducible exact ih0 _ _ _ _ _ _ _ _)
      | (with_reducible exact ih1 _ _ _)
      | (with_reducible exact impl_HashToField.mono _ _ _ _ _)
      | (with_reducible exact laws_eqUint64S.mono _ _ _)
      | (with_reducible exact laws_heldUint64S.mono _ _ _)
      | (with_reducible exact laws_markUint64S.mono _ _ _)
      | (with_reducible exact spec_HashToField.mono _ _ _ _ _)
      | (with_reducible exact LeO.refl _)
      | (with_reducible exact LeO.none _)
      | (with_reducible refine LeO.ite ?_ ?_)
      | (with_reducible refine LeO.bind ?_ (fun _ => ?_))
      | exact ih0 _ _ _ _ _ _ _ _
      | exact ih1 _ _ _
      | exact impl_HashToField.mono _ _ _ _ _
      | exact laws_eqUint64S.mono _ _ _
      | exact laws_heldUint64S.mono _ _ _
      | exact laws_markUint64S.mono _ _ _
      | exact spec_HashToField.mono _ _ _ _ _
      | exact LeO.none _
      | refine LeO.ite ?_ ?_
      | refine LeO.bind ?_ (fun _ => ?_)
set_option maxHeartbeats 8000000 in
set_option maxRecDepth 100000 in
theorem laws_FnExactHashToField.calls (k : Nat) (a0 : ByteArray) (a1 : ByteArray) (a2 : Int) (a3 : Int) (r : Bool) (w : World) (h : laws_FnExactHashToField.f k a0 a1 a2 a3 = some r) (hG : Glob w) :
    Calls Tryd.prog 4 #[.string a0, .string a1, .int .u64 a2, .int .i64 a3] w fun e w' => e = .returned (.bool r) ∧ Below w.heap.size w w' := by
  have HB := Aside0.mk (Below.refl w.heap.size w)
  have H : (if (a0.size : Int) > 1048576 then (some true) else (if (a1.size : Int) > 1048576 then (some true) else ((spec_HashToField.f k a0 a1 a2 a3).bind fun bt225 => ((impl_HashToField.f k a0 a1 a2 a3).bind fun bt229 => ((laws_eqUint64S.f k bt229.1 bt225.1).bind fun t233 => (if t233 = true then (laws_FnExactHashToField.j0 k a0 a1 a2 a3 bt225.1 bt225.2 bt229.1 (bt229.2 != bt225.2)) else (laws_FnExactHashToField.j0 k a0 a1 a2 a3 bt225.1 bt225.2 bt229.1 true))))))) = some r := h
  clear h
  by_cases c5 : (a0.size : Int) > 1048576
  · rw [if_pos c5] at H
    have c5b0 : decide (1048576 < (a0.size : Int)) = true := decide_eq_true c5
    have c5b1 : decide (1048576 < a0.size) = true := decide_eq_true (by omega)
    clear c5
    obtain rfl := Option.some.inj H
    go_enter Tryd.func4, Tryd.ntmps4
    go_wp2
    go_ret
    exact ⟨by first | rfl | (simp [errW_none, errW_some] <;> rfl) | (simp [*, errW_none, errW_some] <;> rfl), by repeat (first | (with_reducible first | exact HB.out | apply below_alloc | apply pw_below_drewN | apply below_drew1) | exact HB.out)⟩
  · rw [if_neg c5] at H
    have c5b0 : decide (1048576 < (a0.size : Int)) = false := decide_eq_false c5
    have c5b1 : decide (1048576 < a0.size) = false := decide_eq_false (by omega)
    clear c5
    by_cases c6 : (a1.size : Int) > 1048576
    · rw [if_pos c6] at H
      have c6b0 : decide (1048576 < (a1.size : Int)) = true := decide_eq_true c6
      have c6b1 : decide (1048576 < a1.size) = true := decide_eq_true (by omega)
      clear c6
      obtain rfl := Option.some.inj H
      go_enter Tryd.func4, Tryd.ntmps4
      go_wp2
      go_ret
      exact ⟨by first | rfl | (simp [errW_none, errW_some] <;> rfl) | (simp [*, errW_none, errW_some] <;> rfl), by repeat (first | (with_reducible first | exact HB.out | apply below_alloc | apply pw_below_drewN | apply below_drew1) | exact HB.out)⟩
    · rw [if_neg c6] at H
      have c6b0 : decide (1048576 < (a1.size : Int)) = false := decide_eq_false c6
      have c6b1 : decide (1048576 < a1.size) = false := decide_eq_false (by omega)
      clear c6
      replace H := Option.bind_eq_some_iff.mp H
      obtain ⟨⟨t225, t226⟩, A70, H⟩ := H
      replace H : ((impl_HashToField.f k a0 a1 a2 a3).bind fun bt229 => ((laws_eqUint64S.f k bt229.1 t225).bind fun t233 => (if t233 = true then (laws_FnExactHashToField.j0 k a0 a1 a2 a3 t225 t226 bt229.1 (bt229.2 != t226)) else (laws_FnExactHashToField.j0 k a0 a1 a2 a3 t225 t226 bt229.1 true)))) = some r := H
      have A7 := Aside0.mk A70
      clear A70
      replace H := Option.bind_eq_some_iff.mp H
      obtain ⟨⟨t229, t230⟩, A80, H⟩ := H
      replace H : ((laws_eqUint64S.f k t229 t225).bind fun t233 => (if t233 = true then (laws_FnExactHashToField.j0 k a0 a1 a2 a3 t225 t226 t229 (t230 != t226)) else (laws_FnExactHashToField.j0 k a0 a1 a2 a3 t225 t226 t229 true))) = some r := H
      have A8 := Aside0.mk A80
      clear A80
      have HC9 := Aside0.mk H
      clear H
      go_enter Tryd.func4, Tryd.ntmps4
      go_upto_region 7 with (first | ((with_reducible refine gate_callee (f := 10) rfl ?_); refine goesL_ (some 28) rfl rfl Tryd.func10 (by kernel_rfl) rfl #[.string a0, .string a1, .int .u64 a2, .int .i64 a3] rfl (by (try simp only [List.map_toArray, List.map_cons, List.map_nil]); first | done | rfl | (simp only [List.length_drop, List.length_take]; rfl)) ?_; (with_reducible refine (spec_HashToField.calls k a0 a1 a2 a3 t225 t226 _ A7.out).mono ?_); rintro e w10 ⟨v227, rfl, ho0, hb⟩; refine ⟨_, rfl, ?_⟩; have n0_ := Aside0.mk (Kd.R_lower ho0 (below_size (by repeat (first | (with_reducible first | exact HB.out | apply below_alloc | apply pw_below_drewN | apply below_drew1) | exact HB.out)))); have n1_ := Aside0.mk (below_step (by repeat (first | (with_reducible first | exact HB.out | apply below_alloc | apply pw_below_drewN | apply below_drew1) | exact HB.out)) hb); clear HB; have HO228 := n0_; have HB := n1_; clear n0_ n1_; (try clear hb); (try clear hb2); (try clear hk); (try clear hi); (try clear ho0)) | ((with_reducible refine gate_callee (f := 11) rfl ?_); refine goesL_ (some 36) rfl rfl Tryd.func11 (by kernel_rfl) rfl #[.string a0, .string a1, .int .u64 a2, .int .i64 a3] rfl (by (try simp only [List.map_toArray, List.map_cons, List.map_nil]); first | done | rfl | (simp only [List.length_drop, List.length_take]; rfl)) ?_; (with_reducible refine (impl_HashToField.calls k a0 a1 a2 a3 t229 t230 _ A8.out ?_).mono ?_); (exact Glob.of_below hG (by repeat (first | (with_reducible first | exact HB.out | apply below_alloc | apply pw_below_drewN | apply below_drew1) | exact HB.out))); rintro e w11 ⟨v231, rfl, ho0, hb⟩; refine ⟨_, rfl, ?_⟩; have n0_ := Aside0.mk (Kd.R_elder' (by (with_reducible repeat (first | apply Kd.R_alloc | apply Kd.R_drewN | apply Kd.R_drew)); exact HO228.out) (Kd.R_base ho0) hb); have n1_ := Aside0.mk (Kd.R_lower (Kd.R_new' ho0 (Kd.R_lt (by (with_reducible repeat (first | apply Kd.R_alloc | apply Kd.R_drewN | apply Kd.R_drew)); exact HO228.out))) (below_size (by repeat (first | (with_reducible first | exact HB.out | apply below_alloc | apply pw_below_drewN | apply below_drew1) | exact HB.out)))); have n2_ := Aside0.mk (below_step (by repeat (first | (with_reducible first | exact HB.out | apply below_alloc | apply pw_below_drewN | apply below_drew1) | exact HB.out)) hb); clear HO228; clear HB; have HO228 := n0_; have HO232 := n1_; have HB := n2_; clear n0_ n1_ n2_; (try clear hb); (try clear hb2); (try clear hk); (try clear hi); (try clear ho0)))
      (try simp only [Act.put, List.setIfInBounds_toArray, List.set_cons_zero, List.set_cons_succ])
      go_cut [47] (fun v47 wc => ∃ (kq : Nat) (x47_8 : Bool), v47 = .bool x47_8 ∧ Aside0 (laws_FnExactHashToField.j0 kq a0 a1 a2 a3 t225 t226 t229 x47_8 = some r) ∧ Aside0 (kq ≤ k) ∧ Aside0 (Kd.R (Kd.int .u64) 22 wc w.heap.size (fun k_ => some k_ ≠ (v231 : Value).ownBlock) v227 t225) ∧ Aside0 (Kd.R (Kd.int .u64) 22 wc w.heap.size (fun k_ => some k_ ≠ (v227 : Value).ownBlock) v231 t229) ∧ Aside0 (Below w.heap.size w wc))
      case first =>
        have H := HC9.out
        clear HC9
        replace H := Option.bind_eq_some_iff.mp H
        obtain ⟨t233, A120, H⟩ := H
        replace H : (if t233 = true then (laws_FnExactHashToField.j0 k a0 a1 a2 a3 t225 t226 t229 (t230 != t226)) else (laws_FnExactHashToField.j0 k a0 a1 a2 a3 t225 t226 t229 true)) = some r := H
        have A12 := Aside0.mk A120
        clear A120
        by_cases c13 : t233 = true
        · subst c13
          have H1 : (laws_FnExactHashToField.j0 k a0 a1 a2 a3 t225 t226 t229 (t230 != t226)) = some r := by rw [if_pos rfl] at H; exact H
          clear H
          have H := H1
          clear H1
          have H' := Aside0.mk H
          clear H
          obtain ⟨Ao14, co14, eo14⟩ := Kd.R_slice HO232.out
          subst eo14
          obtain ⟨Ao15, co15, eo15⟩ := Kd.R_slice HO228.out
          subst eo15
          go_wp2_with (first | ((with_reducible refine gate_callee (f := 12) rfl ?_); refine goesL_ (some 41) rfl rfl Tryd.func12 (by kernel_rfl) rfl #[.slice Ao14 t229.length co14, .slice Ao15 t225.length co15] rfl (by (try simp only [List.map_toArray, List.map_cons, List.map_nil]); first | done | rfl | (simp only [List.length_drop, List.length_take]; rfl)) ?_; (with_reducible refine (laws_eqUint64S.calls k _ _ t229 _ _ t225 true _ ?side1 ?side2 ?side3 ?side4 A12.out).mono ?_); (case side1 => repeat (first | exact (Kd.R_reads' HO232.out).2.2 | (with_reducible refine Kd.C_alloc ?_ _) | (with_reducible refine Kd.C_drewN ?_ _) | (with_reducible refine Kd.C_drew ?_))); (case side2 => exact (Kd.R_reads' HO232.out).2.1); (case side3 => repeat (first | exact (Kd.R_reads' HO228.out).2.2 | (with_reducible refine Kd.C_alloc ?_ _) | (with_reducible refine Kd.C_drewN ?_ _) | (with_reducible refine Kd.C_drew ?_))); (case side4 => exact (Kd.R_reads' HO228.out).2.1); rintro e w' ⟨rfl, ⟨nd, rfl⟩⟩; refine ⟨_, rfl, ?_⟩))
          go_meet
          case rel => exact ⟨_, ((t230 != t226)), (by first | rfl | (simp; done) | (simp [*]; done)), H', ⟨by first | omega | exact Nat.le_refl _⟩, ⟨by (with_reducible repeat (first | apply Kd.R_alloc | apply Kd.R_drewN | apply Kd.R_drew)); exact Kd.R_mono HO228.out (fun _ hk => hk.2)⟩, ⟨by (with_reducible repeat (first | apply Kd.R_alloc | apply Kd.R_drewN | apply Kd.R_drew)); exact Kd.R_mono HO232.out (fun _ hk => hk.2)⟩, ⟨by repeat (first | (with_reducible first | exact HB.out | apply below_alloc | apply pw_below_drewN | apply below_drew1) | exact HB.out)⟩⟩
        · replace c13 := Bool.eq_false_iff.mpr c13
          subst c13
          have H1 : (laws_FnExactHashToField.j0 k a0 a1 a2 a3 t225 t226 t229 true) = some r := by rw [if_neg (show ¬ (false = true) by decide)] at H; exact H
          clear H
          have H := H1
          clear H1
          have H' := Aside0.mk H
          clear H
          obtain ⟨Ao16, co16, eo16⟩ := Kd.R_slice HO232.out
          subst eo16
          obtain ⟨Ao17, co17, eo17⟩ := Kd.R_slice HO228.out
          subst eo17
          go_wp2_with (first | ((with_reducible refine gate_callee (f := 12) rfl ?_); refine goesL_ (some 41) rfl rfl Tryd.func12 (by kernel_rfl) rfl #[.slice Ao16 t229.length co16, .slice Ao17 t225.length co17] rfl (by (try simp only [List.map_toArray, List.map_cons, List.map_nil]); first | done | rfl | (simp only [List.length_drop, List.length_take]; rfl)) ?_; (with_reducible refine (laws_eqUint64S.calls k _ _ t229 _ _ t225 false _ ?side1 ?side2 ?side3 ?side4 A12.out).mono ?_); (case side1 => repeat (first | exact (Kd.R_reads' HO232.out).2.2 | (with_reducible refine Kd.C_alloc ?_ _) | (with_reducible refine Kd.C_drewN ?_ _) | (with_reducible refine Kd.C_drew ?_))); (case side2 => exact (Kd.R_reads' HO232.out).2.1); (case side3 => repeat (first | exact (Kd.R_reads' HO228.out).2.2 | (with_reducible refine Kd.C_alloc ?_ _) | (with_reducible refine Kd.C_drewN ?_ _) | (with_reducible refine Kd.C_drew ?_))); (case side4 => exact (Kd.R_reads' HO228.out).2.1); rintro e w' ⟨rfl, ⟨nd, rfl⟩⟩; refine ⟨_, rfl, ?_⟩))
          go_meet
          case rel => exact ⟨_, (true), (by first | rfl | (simp; done) | (simp [*]; done)), H', ⟨by first | omega | exact Nat.le_refl _⟩, ⟨by (with_reducible repeat (first | apply Kd.R_alloc | apply Kd.R_drewN | apply Kd.R_drew)); exact Kd.R_mono HO228.out (fun _ hk => hk.2)⟩, ⟨by (with_reducible repeat (first | apply Kd.R_alloc | apply Kd.R_drewN | apply Kd.R_drew)); exact Kd.R_mono HO232.out (fun _ hk => hk.2)⟩, ⟨by repeat (first | (with_reducible first | exact HB.out | apply below_alloc | apply pw_below_drewN | apply below_drew1) | exact HB.out)⟩⟩
      case rest =>
        clear HC9
        try clear c1
        try clear p2
        try clear c4
        try clear c5
        try clear c5b0
        try clear c5b1
        try clear c6
        try clear c6b0
        try clear c6b1
        try clear c10
        try clear c11
        try clear c12
        try clear c13
        obtain ⟨kq, x47_8, rfl, HA, HJ8, HO_9, HO_11, HB⟩ := hcut
        cases kq with
        | zero => exact absurd HA.out (by simp [laws_FnExactHashToField.j0])
        | succ kj8 =>
          have H := HA.out
          clear HA
          simp only [laws_FnExactHashToField.j0] at H
          by_cases c18 : x47_8 = true
          · subst c18
            have H1 : (some false) = some r := by rw [if_pos rfl] at H; exact H
            clear H
            have H := H1
            clear H1
            obtain rfl := Option.some.inj H
            go_wp2
            go_ret
            exact ⟨by first | rfl | (simp [errW_none, errW_some] <;> rfl) | (simp [*, errW_none, errW_some] <;> rfl), by repeat (first | (with_reducible first | exact HB.out | apply below_alloc | apply pw_below_drewN | apply below_drew1) | exact HB.out)⟩
          · replace c18 := Bool.eq_false_iff.mpr c18
            subst c18
            have H1 : ((laws_markUint64S.f kj8 t229 1).bind fun bt234 => ((laws_heldUint64S.f kj8 bt234.2 1).bind fun t236 => (if t236 < 0 then (some false) else (if t236 = bt234.1 then ((impl_HashToField.f kj8 a0 a1 a2 a3).bind fun bt237 => ((laws_eqUint64S.f kj8 bt237.1 t225).bind fun t241 => (if t241 = true then (laws_FnExactHashToField.j1 kj8 bt234.2 bt234.1 (bt237.2 != t226)) else (laws_FnExactHashToField.j1 kj8 bt234.2 bt234.1 true)))) else (some false))))) = some r := by rw [if_neg (show ¬ (false = true) by decide)] at H; exact H
            clear H
            have H := H1
            clear H1
            replace H := Option.bind_eq_some_iff.mp H
            obtain ⟨⟨t234, t235⟩, A190, H⟩ := H
            replace H : ((laws_heldUint64S.f kj8 t235 1).bind fun t236 => (if t236 < 0 then (some false) else (if t236 = t234 then ((impl_HashToField.f kj8 a0 a1 a2 a3).bind fun bt237 => ((laws_eqUint64S.f kj8 bt237.1 t225).bind fun t241 => (if t241 = true then (laws_FnExactHashToField.j1 kj8 t235 t234 (bt237.2 != t226)) else (laws_FnExactHashToField.j1 kj8 t235 t234 true)))) else (some false)))) = some r := H
            have A19 := Aside0.mk A190
            clear A190
            replace H := Option.bind_eq_some_iff.mp H
            obtain ⟨t236, A200, H⟩ := H
            replace H : (if t236 < 0 then (some false) else (if t236 = t234 then ((impl_HashToField.f kj8 a0 a1 a2 a3).bind fun bt237 => ((laws_eqUint64S.f kj8 bt237.1 t225).bind fun t241 => (if t241 = true then (laws_FnExactHashToField.j1 kj8 t235 t234 (bt237.2 != t226)) else (laws_FnExactHashToField.j1 kj8 t235 t234 true)))) else (some false))) = some r := H
            have A20 := Aside0.mk A200
            clear A200
            by_cases c21 : t236 < 0
            · rw [if_pos c21] at H
              have c21b0 : decide (t236 < 0) = true := decide_eq_true c21
              clear c21
              obtain rfl := Option.some.inj H
              obtain ⟨Ao22, co22, eo22⟩ := Kd.R_slice HO_11.out
              subst eo22
              go_wp2_with (first | ((with_reducible refine gate_callee (f := 13) rfl ?_); refine goesL_ (some 50) rfl rfl Tryd.func13 (by kernel_rfl) rfl #[.slice Ao22 t229.length co22, .int .i64 1] rfl (by (try simp only [List.map_toArray, List.map_cons, List.map_nil]); first | done | rfl | (simp only [List.length_drop, List.length_take]; rfl)) ?_; (with_reducible refine (laws_markUint64S.calls kj8 (fun k_ => some k_ = (.slice Ao22 t229.length co22 : Value).ownBlock) (.slice Ao22 t229.length co22) t229 1 t234 t235 w _ ?side1 ?side2 A19.out).mono ?_); (case side1 => repeat (first | (with_reducible first | exact HB.out | apply below_alloc | apply pw_below_drewN | apply below_drew1) | exact HB.out)); (case side2 => exact Kd.R_tight rfl HO_11.out); rintro e w23 ⟨rfl, hy0, hb, hkp⟩; refine ⟨_, rfl, ?_⟩; have n0_ := Aside0.mk (Kd.R_mono (ok' := fun k_ => some k_ ≠ (.slice Ao22 t229.length co22 : Value).ownBlock) (Kd.R_keptB (HO_9.out) hkp (fun k_ hk_ hs_ => (hk_) hs_)) (fun k_ hk_ => hk_.1)); have n1_ := Aside0.mk (Kd.R_reok rfl hy0 (fun k_ e_ => HO_11.out.1 k_ e_)); have n2_ := Aside0.mk (hb); clear HO_9; clear HO_11; clear HB; have HO_9 := n0_; have HO_11 := n1_; have HB := n2_; clear n0_ n1_ n2_; (try clear hb); (try clear hkp); (try clear hy0)) | ((with_reducible refine gate_callee (f := 14) rfl ?_); refine goesL_ (some 53) rfl rfl Tryd.func14 (by kernel_rfl) rfl #[.slice Ao22 t235.length co22, .int .i64 1] rfl (by (try simp only [List.map_toArray, List.map_cons, List.map_nil]); first | done | (rw [show t235.length = t229.length from (Kd.R_reads' HO_11.out).1.symm] <;> rfl) | rfl | (simp only [List.length_drop, List.length_take]; rfl)) ?_; (with_reducible refine (laws_heldUint64S.calls kj8 _ _ t235 1 t236 _ ?side1 ?side2 A20.out).mono ?_); (case side1 => repeat (first | exact (Kd.R_reads' HO_11.out).2.2 | (with_reducible refine Kd.C_alloc ?_ _) | (with_reducible refine Kd.C_drewN ?_ _) | (with_reducible refine Kd.C_drew ?_))); (case side2 => rw [show t235.length = t229.length from (Kd.R_reads' HO_11.out).1.symm]; exact (Kd.R_reads' HO_11.out).2.1); rintro e w' ⟨rfl, ⟨nd, rfl⟩⟩; refine ⟨_, rfl, ?_⟩))
              go_ret
              exact ⟨by first | rfl | (simp [errW_none, errW_some] <;> rfl) | (simp [*, errW_none, errW_some] <;> rfl), by repeat (first | (with_reducible first | exact HB.out | apply below_alloc | apply pw_below_drewN | apply below_drew1) | exact HB.out)⟩
            · rw [if_neg c21] at H
              have c21b0 : decide (t236 < 0) = false := decide_eq_false c21
              clear c21
              by_cases c24 : t236 = t234
              · rw [if_pos c24] at H
                have c24b0 : (t236 == t234) = true := beq_iff_eq.mpr c24
                have c24b1 : (t236 != t234) = false := bne_eq_false_iff_eq.mpr c24
                clear c24
                replace H := Option.bind_eq_some_iff.mp H
                obtain ⟨⟨t237, t238⟩, A250, H⟩ := H
                replace H : ((laws_eqUint64S.f kj8 t237 t225).bind fun t241 => (if t241 = true then (laws_FnExactHashToField.j1 kj8 t235 t234 (t238 != t226)) else (laws_FnExactHashToField.j1 kj8 t235 t234 true))) = some r := H
                have A25 := Aside0.mk A250
                clear A250
                have HC26 := Aside0.mk H
                clear H
                obtain ⟨Ao27, co27, eo27⟩ := Kd.R_slice HO_11.out
                subst eo27
                go_upto_region 18 with (first | ((with_reducible refine gate_callee (f := 13) rfl ?_); refine goesL_ (some 50) rfl rfl Tryd.func13 (by kernel_rfl) rfl #[.slice Ao27 t229.length co27, .int .i64 1] rfl (by (try simp only [List.map_toArray, List.map_cons, List.map_nil]); first | done | rfl | (simp only [List.length_drop, List.length_take]; rfl)) ?_; (with_reducible refine (laws_markUint64S.calls kj8 (fun k_ => some k_ = (.slice Ao27 t229.length co27 : Value).ownBlock) (.slice Ao27 t229.length co27) t229 1 t234 t235 w _ ?side1 ?side2 A19.out).mono ?_); (case side1 => repeat (first | (with_reducible first | exact HB.out | apply below_alloc | apply pw_below_drewN | apply below_drew1) | exact HB.out)); (case side2 => exact Kd.R_tight rfl HO_11.out); rintro e w28 ⟨rfl, hy0, hb, hkp⟩; refine ⟨_, rfl, ?_⟩; have n0_ := Aside0.mk (Kd.R_mono (ok' := fun k_ => some k_ ≠ (.slice Ao27 t229.length co27 : Value).ownBlock) (Kd.R_keptB (HO_9.out) hkp (fun k_ hk_ hs_ => (hk_) hs_)) (fun k_ hk_ => hk_.1)); have n1_ := Aside0.mk (Kd.R_reok rfl hy0 (fun k_ e_ => HO_11.out.1 k_ e_)); have n2_ := Aside0.mk (hb); clear HO_9; clear HO_11; clear HB; have HO_9 := n0_; have HO_11 := n1_; have HB := n2_; clear n0_ n1_ n2_; (try clear hb); (try clear hkp); (try clear hy0)) | ((with_reducible refine gate_callee (f := 14) rfl ?_); refine goesL_ (some 53) rfl rfl Tryd.func14 (by kernel_rfl) rfl #[.slice Ao27 t235.length co27, .int .i64 1] rfl (by (try simp only [List.map_toArray, List.map_cons, List.map_nil]); first | done | (rw [show t235.length = t229.length from (Kd.R_reads' HO_11.out).1.symm] <;> rfl) | rfl | (simp only [List.length_drop, List.length_take]; rfl)) ?_; (with_reducible refine (laws_heldUint64S.calls kj8 _ _ t235 1 t236 _ ?side1 ?side2 A20.out).mono ?_); (case side1 => repeat (first | exact (Kd.R_reads' HO_11.out).2.2 | (with_reducible refine Kd.C_alloc ?_ _) | (with_reducible refine Kd.C_drewN ?_ _) | (with_reducible refine Kd.C_drew ?_))); (case side2 => rw [show t235.length = t229.length from (Kd.R_reads' HO_11.out).1.symm]; exact (Kd.R_reads' HO_11.out).2.1); rintro e w' ⟨rfl, ⟨nd, rfl⟩⟩; refine ⟨_, rfl, ?_⟩) | ((with_reducible refine gate_callee (f := 11) rfl ?_); refine goesL_ (some 64) rfl rfl Tryd.func11 (by kernel_rfl) rfl #[.string a0, .string a1, .int .u64 a2, .int .i64 a3] rfl (by (try simp only [List.map_toArray, List.map_cons, List.map_nil]); first | done | rfl | (simp only [List.length_drop, List.length_take]; rfl)) ?_; (with_reducible refine (impl_HashToField.calls kj8 a0 a1 a2 a3 t237 t238 _ A25.out ?_).mono ?_); (exact Glob.of_below hG (by repeat (first | (with_reducible first | exact HB.out | apply below_alloc | apply pw_below_drewN | apply below_drew1) | exact HB.out))); rintro e w29 ⟨v239, rfl, ho0, hb⟩; refine ⟨_, rfl, ?_⟩; have n0_ := Aside0.mk (Kd.R_elder' (by (with_reducible repeat (first | apply Kd.R_alloc | apply Kd.R_drewN | apply Kd.R_drew)); exact HO_9.out) (Kd.R_base ho0) hb); have n1_ := Aside0.mk (Kd.R_elder' (by (with_reducible repeat (first | apply Kd.R_alloc | apply Kd.R_drewN | apply Kd.R_drew)); exact HO_11.out) (Kd.R_base ho0) hb); have n2_ := Aside0.mk (Kd.R_lower (Kd.R_new' (Kd.R_new' ho0 (Kd.R_lt (by (with_reducible repeat (first | apply Kd.R_alloc | apply Kd.R_drewN | apply Kd.R_drew)); exact HO_9.out))) (Kd.R_lt (by (with_reducible repeat (first | apply Kd.R_alloc | apply Kd.R_drewN | apply Kd.R_drew)); exact HO_11.out))) (below_size (by repeat (first | (with_reducible first | exact HB.out | apply below_alloc | apply pw_below_drewN | apply below_drew1) | exact HB.out)))); have n3_ := Aside0.mk (below_step (by repeat (first | (with_reducible first | exact HB.out | apply below_alloc | apply pw_below_drewN | apply below_drew1) | exact HB.out)) hb); clear HO_9; clear HO_11; clear HB; have HO_9 := n0_; have HO_11 := n1_; have HO240 := n2_; have HB := n3_; clear n0_ n1_ n2_ n3_; (try clear hb); (try clear hb2); (try clear hk); (try clear hi); (try clear ho0)))
                (try simp only [Act.put, List.setIfInBounds_toArray, List.set_cons_zero, List.set_cons_succ])
                go_cut [75] (fun v75 wc => ∃ (kq : Nat) (x75_25 : Bool), v75 = .bool x75_25 ∧ Aside0 (laws_FnExactHashToField.j1 kq t235 t234 x75_25 = some r) ∧ Aside0 (kq ≤ kj8) ∧ Aside0 (Kd.R (Kd.int .u64) 22 wc w.heap.size (fun _ => True) (.slice Ao27 t229.length co27) t235) ∧ Aside0 (Below w.heap.size w wc))
                case first =>
                  have H := HC26.out
                  clear HC26
                  replace H := Option.bind_eq_some_iff.mp H
                  obtain ⟨t241, A300, H⟩ := H
                  replace H : (if t241 = true then (laws_FnExactHashToField.j1 kj8 t235 t234 (t238 != t226)) else (laws_FnExactHashToField.j1 kj8 t235 t234 true)) = some r := H
                  have A30 := Aside0.mk A300
                  clear A300
                  by_cases c31 : t241 = true
                  · subst c31
                    have H1 : (laws_FnExactHashToField.j1 kj8 t235 t234 (t238 != t226)) = some r := by rw [if_pos rfl] at H; exact H
                    clear H
                    have H := H1
                    clear H1
                    have H' := Aside0.mk H
                    clear H
                    obtain ⟨Ao32, co32, eo32⟩ := Kd.R_slice HO240.out
                    subst eo32
                    obtain ⟨Ao33, co33, eo33⟩ := Kd.R_slice HO_9.out
                    subst eo33
                    go_wp2_with (first | ((with_reducible refine gate_callee (f := 12) rfl ?_); refine goesL_ (some 69) rfl rfl Tryd.func12 (by kernel_rfl) rfl #[.slice Ao32 t237.length co32, .slice Ao33 t225.length co33] rfl (by (try simp only [List.map_toArray, List.map_cons, List.map_nil]); first | done | rfl | (simp only [List.length_drop, List.length_take]; rfl)) ?_; (with_reducible refine (laws_eqUint64S.calls kj8 _ _ t237 _ _ t225 true _ ?side1 ?side2 ?side3 ?side4 A30.out).mono ?_); (case side1 => repeat (first | exact (Kd.R_reads' HO240.out).2.2 | (with_reducible refine Kd.C_alloc ?_ _) | (with_reducible refine Kd.C_drewN ?_ _) | (with_reducible refine Kd.C_drew ?_))); (case side2 => exact (Kd.R_reads' HO240.out).2.1); (case side3 => repeat (first | exact (Kd.R_reads' HO_9.out).2.2 | (with_reducible refine Kd.C_alloc ?_ _) | (with_reducible refine Kd.C_drewN ?_ _) | (with_reducible refine Kd.C_drew ?_))); (case side4 => exact (Kd.R_reads' HO_9.out).2.1); rintro e w' ⟨rfl, ⟨nd, rfl⟩⟩; refine ⟨_, rfl, ?_⟩))
                    go_meet
                    case rel => exact ⟨_, ((t238 != t226)), (by first | rfl | (simp; done) | (simp [*]; done)), H', ⟨by have := HJ8.out; first | omega | exact Nat.le_refl _⟩, ⟨by (with_reducible repeat (first | apply Kd.R_alloc | apply Kd.R_drewN | apply Kd.R_drew)); exact Kd.R_mono HO_11.out (fun _ hk => trivial)⟩, ⟨by repeat (first | (with_reducible first | exact HB.out | apply below_alloc | apply pw_below_drewN | apply below_drew1) | exact HB.out)⟩⟩
                  · replace c31 := Bool.eq_false_iff.mpr c31
                    subst c31
                    have H1 : (laws_FnExactHashToField.j1 kj8 t235 t234 true) = some r := by rw [if_neg (show ¬ (false = true) by decide)] at H; exact H
                    clear H
                    have H := H1
                    clear H1
                    have H' := Aside0.mk H
                    clear H
                    obtain ⟨Ao34, co34, eo34⟩ := Kd.R_slice HO240.out
                    subst eo34
                    obtain ⟨Ao35, co35, eo35⟩ := Kd.R_slice HO_9.out
                    subst eo35
                    go_wp2_with (first | ((with_reducible refine gate_callee (f := 12) rfl ?_); refine goesL_ (some 69) rfl rfl Tryd.func12 (by kernel_rfl) rfl #[.slice Ao34 t237.length co34, .slice Ao35 t225.length co35] rfl (by (try simp only [List.map_toArray, List.map_cons, List.map_nil]); first | done | rfl | (simp only [List.length_drop, List.length_take]; rfl)) ?_; (with_reducible refine (laws_eqUint64S.calls kj8 _ _ t237 _ _ t225 false _ ?side1 ?side2 ?side3 ?side4 A30.out).mono ?_); (case side1 => repeat (first | exact (Kd.R_reads' HO240.out).2.2 | (with_reducible refine Kd.C_alloc ?_ _) | (with_reducible refine Kd.C_drewN ?_ _) | (with_reducible refine Kd.C_drew ?_))); (case side2 => exact (Kd.R_reads' HO240.out).2.1); (case side3 => repeat (first | exact (Kd.R_reads' HO_9.out).2.2 | (with_reducible refine Kd.C_alloc ?_ _) | (with_reducible refine Kd.C_drewN ?_ _) | (with_reducible refine Kd.C_drew ?_))); (case side4 => exact (Kd.R_reads' HO_9.out).2.1); rintro e w' ⟨rfl, ⟨nd, rfl⟩⟩; refine ⟨_, rfl, ?_⟩))
                    go_meet
                    case rel => exact ⟨_, (true), (by first | rfl | (simp; done) | (simp [*]; done)), H', ⟨by have := HJ8.out; first | omega | exact Nat.le_refl _⟩, ⟨by (with_reducible repeat (first | apply Kd.R_alloc | apply Kd.R_drewN | apply Kd.R_drew)); exact Kd.R_mono HO_11.out (fun _ hk => trivial)⟩, ⟨by repeat (first | (with_reducible first | exact HB.out | apply below_alloc | apply pw_below_drewN | apply below_drew1) | exact HB.out)⟩⟩
                case rest =>
                  clear HC26
                  try clear c1
                  try clear c2
                  try clear p2
                  try clear c3
                  try clear c4
                  try clear c5
                  try clear c5b0
                  try clear c5b1
                  try clear c6
                  try clear c6b0
                  try clear c6b1
                  try clear c10
                  try clear c11
                  try clear c12
                  try clear c13
                  try clear c14
                  try clear c18
                  try clear c21
                  try clear c21b0
                  try clear c24
                  try clear c24b0
                  try clear c24b1
                  try clear c31
                  try clear p2
                  obtain ⟨kq, x75_25, rfl, HA, HJ25, HO_11, HB⟩ := hcut
                  have hl11_25 := (Kd.R_reads' HO_11.out).1
                  rw [hl11_25] at HO_11
                  (try simp only [hl11_25])
                  cases kq with
                  | zero => exact absurd HA.out (by simp [laws_FnExactHashToField.j1])
                  | succ kj25 =>
                    have H := HA.out
                    clear HA
                    simp only [laws_FnExactHashToField.j1] at H
                    by_cases c36 : x75_25 = true
                    · subst c36
                      have H1 : (some false) = some r := by rw [if_pos rfl] at H; exact H
                      clear H
                      have H := H1
                      clear H1
                      obtain rfl := Option.some.inj H
                      go_wp2
                      go_ret
                      exact ⟨by first | rfl | (simp [errW_none, errW_some] <;> rfl) | (simp [*, errW_none, errW_some] <;> rfl), by repeat (first | (with_reducible first | exact HB.out | apply below_alloc | apply pw_below_drewN | apply below_drew1) | exact HB.out)⟩
                    · replace c36 := Bool.eq_false_iff.mpr c36
                      subst c36
                      have H1 : ((laws_heldUint64S.f kj25 t235 1).bind fun t242 => (if t242 < 0 then (some false) else (if t242 = t234 then (some true) else (some false)))) = some r := by rw [if_neg (show ¬ (false = true) by decide)] at H; exact H
                      clear H
                      have H := H1
                      clear H1
                      replace H := Option.bind_eq_some_iff.mp H
                      obtain ⟨t242, A370, H⟩ := H
                      replace H : (if t242 < 0 then (some false) else (if t242 = t234 then (some true) else (some false))) = some r := H
                      have A37 := Aside0.mk A370
                      clear A370
                      by_cases c38 : t242 < 0
                      · rw [if_pos c38] at H
                        have c38b0 : decide (t242 < 0) = true := decide_eq_true c38
                        clear c38
                        obtain rfl := Option.some.inj H
                        go_wp2_with (first | ((with_reducible refine gate_callee (f := 14) rfl ?_); refine goesL_ (some 78) rfl rfl Tryd.func14 (by kernel_rfl) rfl #[.slice Ao27 t235.length co27, .int .i64 1] rfl (by (try simp only [List.map_toArray, List.map_cons, List.map_nil]); first | done | rfl | (simp only [List.length_drop, List.length_take]; rfl)) ?_; (with_reducible refine (laws_heldUint64S.calls kj25 _ _ t235 1 t242 _ ?side1 ?side2 A37.out).mono ?_); (case side1 => repeat (first | exact (Kd.R_reads' HO_11.out).2.2 | (with_reducible refine Kd.C_alloc ?_ _) | (with_reducible refine Kd.C_drewN ?_ _) | (with_reducible refine Kd.C_drew ?_))); (case side2 => exact (Kd.R_reads' HO_11.out).2.1); rintro e w' ⟨rfl, ⟨nd, rfl⟩⟩; refine ⟨_, rfl, ?_⟩))
                        go_ret
                        exact ⟨by first | rfl | (simp [errW_none, errW_some] <;> rfl) | (simp [*, errW_none, errW_some] <;> rfl), by repeat (first | (with_reducible first | exact HB.out | apply below_alloc | apply pw_below_drewN | apply below_drew1) | exact HB.out)⟩
                      · rw [if_neg c38] at H
                        have c38b0 : decide (t242 < 0) = false := decide_eq_false c38
                        clear c38
                        by_cases c39 : t242 = t234
                        · rw [if_pos c39] at H
                          have c39b0 : (t242 == t234) = true := beq_iff_eq.mpr c39
                          have c39b1 : (t242 != t234) = false := bne_eq_false_iff_eq.mpr c39
                          clear c39
                          obtain rfl := Option.some.inj H
                          go_wp2_with (first | ((with_reducible refine gate_callee (f := 14) rfl ?_); refine goesL_ (some 78) rfl rfl Tryd.func14 (by kernel_rfl) rfl #[.slice Ao27 t235.length co27, .int .i64 1] rfl (by (try simp only [List.map_toArray, List.map_cons, List.map_nil]); first | done | rfl | (simp only [List.length_drop, List.length_take]; rfl)) ?_; (with_reducible refine (laws_heldUint64S.calls kj25 _ _ t235 1 t242 _ ?side1 ?side2 A37.out).mono ?_); (case side1 => repeat (first | exact (Kd.R_reads' HO_11.out).2.2 | (with_reducible refine Kd.C_alloc ?_ _) | (with_reducible refine Kd.C_drewN ?_ _) | (with_reducible refine Kd.C_drew ?_))); (case side2 => exact (Kd.R_reads' HO_11.out).2.1); rintro e w' ⟨rfl, ⟨nd, rfl⟩⟩; refine ⟨_, rfl, ?_⟩))
                          go_ret
                          exact ⟨by first | rfl | (simp [errW_none, errW_some] <;> rfl) | (simp [*, errW_none, errW_some] <;> rfl), by repeat (first | (with_reducible first | exact HB.out | apply below_alloc | apply pw_below_drewN | apply below_drew1) | exact HB.out)⟩
                        · rw [if_neg c39] at H
                          have c39b0 : (t242 == t234) = false := beq_eq_false_iff_ne.mpr c39
                          have c39b1 : (t242 != t234) = true := bne_iff_ne.mpr c39
                          obtain rfl := Option.some.inj H
                          go_wp2_with (first | ((with_reducible refine gate_callee (f := 14) rfl ?_); refine goesL_ (some 78) rfl rfl Tryd.func14 (by kernel_rfl) rfl #[.slice Ao27 t235.length co27, .int .i64 1] rfl (by (try simp only [List.map_toArray, List.map_cons, List.map_nil]); first | done | rfl | (simp only [List.length_drop, List.length_take]; rfl)) ?_; (with_reducible refine (laws_heldUint64S.calls kj25 _ _ t235 1 t242 _ ?side1 ?side2 A37.out).mono ?_); (case side1 => repeat (first | exact (Kd.R_reads' HO_11.out).2.2 | (with_reducible refine Kd.C_alloc ?_ _) | (with_reducible refine Kd.C_drewN ?_ _) | (with_reducible refine Kd.C_drew ?_))); (case side2 => exact (Kd.R_reads' HO_11.out).2.1); rintro e w' ⟨rfl, ⟨nd, rfl⟩⟩; refine ⟨_, rfl, ?_⟩))
                          go_ret
                          exact ⟨by first | rfl | (simp [errW_none, errW_some] <;> rfl) | (simp [*, errW_none, errW_some] <;> rfl), by repeat (first | (with_reducible first | exact HB.out | apply below_alloc | apply pw_below_drewN | apply below_drew1) | exact HB.out)⟩
              · rw [if_neg c24] at H
                have c24b0 : (t236 == t234) = false := beq_eq_false_iff_ne.mpr c24
                have c24b1 : (t236 != t234) = true := bne_iff_ne.mpr c24
                obtain rfl := Option.some.inj H
                obtain ⟨Ao40, co40, eo40⟩ := Kd.R_slice HO_11.out
                subst eo40
                go_wp2_with (first | ((with_reducible refine gate_callee (f := 13) rfl ?_); refine goesL_ (some 50) rfl rfl Tryd.func13 (by kernel_rfl) rfl #[.slice Ao40 t229.length co40, .int .i64 1] rfl (by (try simp only [List.map_toArray, List.map_cons, List.map_nil]); first | done | rfl | (simp only [List.length_drop, List.length_take]; rfl)) ?_; (with_reducible refine (laws_markUint64S.calls kj8 (fun k_ => some k_ = (.slice Ao40 t229.length co40 : Value).ownBlock) (.slice Ao40 t229.length co40) t229 1 t234 t235 w _ ?side1 ?side2 A19.out).mono ?_); (case side1 => repeat (first | (with_reducible first | exact HB.out | apply below_alloc | apply pw_below_drewN | apply below_drew1) | exact HB.out)); (case side2 => exact Kd.R_tight rfl HO_11.out); rintro e w41 ⟨rfl, hy0, hb, hkp⟩; refine ⟨_, rfl, ?_⟩; have n0_ := Aside0.mk (Kd.R_mono (ok' := fun k_ => some k_ ≠ (.slice Ao40 t229.length co40 : Value).ownBlock) (Kd.R_keptB (HO_9.out) hkp (fun k_ hk_ hs_ => (hk_) hs_)) (fun k_ hk_ => hk_.1)); have n1_ := Aside0.mk (Kd.R_reok rfl hy0 (fun k_ e_ => HO_11.out.1 k_ e_)); have n2_ := Aside0.mk (hb); clear HO_9; clear HO_11; clear HB; have HO_9 := n0_; have HO_11 := n1_; have HB := n2_; clear n0_ n1_ n2_; (try clear hb); (try clear hkp); (try clear hy0)) | ((with_reducible refine gate_callee (f := 14) rfl ?_); refine goesL_ (some 53) rfl rfl Tryd.func14 (by kernel_rfl) rfl #[.slice Ao40 t235.length co40, .int .i64 1] rfl (by (try simp only [List.map_toArray, List.map_cons, List.map_nil]); first | done | (rw [show t235.length = t229.length from (Kd.R_reads' HO_11.out).1.symm] <;> rfl) | rfl | (simp only [List.length_drop, List.length_take]; rfl)) ?_; (with_reducible refine (laws_heldUint64S.calls kj8 _ _ t235 1 t236 _ ?side1 ?side2 A20.out).mono ?_); (case side1 => repeat (first | exact (Kd.R_reads' HO_11.out).2.2 | (with_reducible refine Kd.C_alloc ?_ _) | (with_reducible refine Kd.C_drewN ?_ _) | (with_reducible refine Kd.C_drew ?_))); (case side2 => rw [show t235.length = t229.length from (Kd.R_reads' HO_11.out).1.symm]; exact (Kd.R_reads' HO_11.out).2.1); rintro e w' ⟨rfl, ⟨nd, rfl⟩⟩; refine ⟨_, rfl, ?_⟩))
                go_ret
                exact ⟨by first | rfl | (simp [errW_none, errW_some] <;> rfl) | (simp [*, errW_none, errW_some] <;> rfl), by repeat (first | (with_reducible first | exact HB.out | apply below_alloc | apply pw_below_drewN | apply below_drew1) | exact HB.out)⟩

/-- THE ONE PURE STATEMENT of laws_FnExactHashToField: yours. -/
def laws_FnExactHashToField.Pure : Prop := ∀ (a0 : ByteArray) (a1 : ByteArray) (a2 : Int) (a3 : Int), a0.size ≤ 140737488351232 → a1.size ≤ 140737488351232 → (Lit.int .u64 a2).wf = true → (Lit.int .i64 a3).wf = true → ∃ k, laws_FnExactHashToField.f k a0 a1 a2 a3 = some true
theorem laws_FnExactHashToField.walk (P : laws_FnExactHashToField.Pure) (a0 : ByteArray) (a1 : ByteArray) (a2 : Int) (a3 : Int) (w : World) (w0 : a0.size ≤ 140737488351232) (w1 : a1.size ≤ 140737488351232) (w2 : (Lit.int .u64 a2).wf = true) (w3 : (Lit.int .i64 a3).wf = true) (hG : Glob w) :
    Calls Tryd.prog 4 #[.string a0, .string a1, .int .u64 a2, .int .i64 a3] w fun e w' => e = .returned (.bool true) ∧ Below w.heap.size w w' := by
  obtain ⟨k, h⟩ := P a0 a1 a2 a3 w0 w1 w2 w3
  refine (laws_FnExactHashToField.calls k a0 a1 a2 a3 true w h hG).mono ?_
  rintro e w' ⟨rfl, hd⟩
  exact ⟨rfl, hd⟩

end Go.Proofs.YtjbiklbhelknfaaDoor.P
end
section
namespace Go.Proofs.YtjbiklbhelknfaaDoor.P
open Go.RowKit Go.Proofs.YtjbiklbhelknfaaDoorW.PrintWords Go.Proofs.YtjbiklbhelknfaaDoorW.PrintLast Go.Proofs.YtjbiklbhelknfaaDoorW.PrintMore
set_option linter.unusedVariables false
set_option linter.unusedSimpArgs false
theorem spAdd (a b m : Int) (h0 : 0 ≤ a) (h1 : a < m) (h2 : 0 ≤ b) (h3 : b < m) (h4 : m < 18446744073709551616) : spec_l2Add.f a b m = some ((a + b) % m) := by
  have e1 : IntKind.u64.wrap (m - b) = m - b := by rw [IntKind.wrap_u64]; omega
  unfold spec_l2Add.f
  rw [e1]
  by_cases c : a ≥ m - b
  · rw [if_pos c, IntKind.wrap_u64]
    have e : (a + b) % m = a - (m - b) := by
      rw [show a + b = (a - (m - b)) + m * 1 by omega, Int.add_mul_emod_self_left]
      exact Int.emod_eq_of_lt (by omega) (by omega)
    rw [e]
    congr 1
    omega
  · rw [if_neg c, IntKind.wrap_u64, Int.emod_eq_of_lt (show 0 ≤ a + b by omega) (show a + b < m by omega)]
    congr 1
    omega
theorem spBit (x0 : ByteArray) (m x : Int) (n j k : Nat) (h0 : 0 ≤ x) (h1 : x < m) (h4 : m < 18446744073709551616) (hn : n < x0.size) (hj : j ≤ 7) :
    spec_Reduce.l1 (k + 1) x0 m x (n : Int) (j : Int) = spec_Reduce.l1 k x0 m ((2 * x + bt x0 (n : Int) / 2 ^ j % 2) % m) (n : Int) ((j : Int) - 1) := by
  have e1 : IntKind.u64.wrap (j : Int) = (j : Int) := by rw [IntKind.wrap_u64]; omega
  have e2 : wrap64 ((j : Int) - 1) = (j : Int) - 1 := by unfold wrap64; omega
  have hb := bt_range x0 (n : Int)
  have e3 : shr .u8 (bt x0 (n : Int)) (j : Int) = bt x0 (n : Int) / 2 ^ j := by
    unfold shr
    rw [Int.toNat_natCast, show min j IntKind.u8.bits = j from Nat.min_eq_left (by show j ≤ 8; omega)]
  have hq : 0 ≤ bt x0 (n : Int) / 2 ^ j := Int.ediv_nonneg hb.1 (Int.le_of_lt (Int.pow_pos (by omega)))
  have hm0 : m ≠ 0 := by omega
  rw [spec_Reduce.l1, if_pos (show (j : Int) ≥ 0 by omega), spAdd x x m h0 h1 h0 h1 h4, Option.bind_some, if_pos (Int.natCast_nonneg _), if_pos (by omega), e1, if_pos (Int.natCast_nonneg _), e2, e3, Int.tmod_eq_emod_of_nonneg hq]
  generalize bt x0 (n : Int) / 2 ^ j = q at hq ⊢
  by_cases c : q % 2 = 1
  · rw [if_pos c, if_neg hm0, spAdd _ _ m (Int.emod_nonneg _ hm0) (Int.emod_lt_of_pos _ (by omega)) (Int.emod_nonneg _ hm0) (Int.emod_lt_of_pos _ (by omega)) h4, Option.bind_some, ← Int.add_emod, c, show x + x = 2 * x by omega]
  · rw [if_neg c, show q % 2 = 0 by omega, show x + x = 2 * x + 0 by omega]
theorem bt_nat' (s : ByteArray) (n : Nat) : bt s (n : Int) = (bytesOf s).getD n 0 := by
  unfold bt bytesOf
  rw [List.getD_eq_getElem?_getD, List.getElem?_map, Array.getElem?_toList]
  by_cases h : n < s.size
  · rw [dif_pos (by rw [Int.toNat_natCast]; exact h), Array.getElem?_eq_getElem (show n < s.data.size from h)]
    simp only [Int.toNat_natCast]
    rfl
  · rw [dif_neg (by rw [Int.toNat_natCast]; exact h), Array.getElem?_eq_none (by show s.data.size ≤ n; have : s.size = s.data.size := rfl; omega)]
    rfl
theorem twice_mod (y c m : Int) : (2 * (y % m) + c) % m = (2 * y + c) % m := by
  rw [Int.add_emod, Int.mul_emod, Int.emod_emod_of_dvd _ (Int.dvd_refl m), ← Int.mul_emod, ← Int.add_emod]
theorem spByte (x0 : ByteArray) (m x : Int) (n k : Nat) (h0 : 0 ≤ x) (h1 : x < m) (h4 : m < 18446744073709551616) (hn : n < x0.size) (hs : x0.size ≤ 65535) :
    spec_Reduce.l1 (k + 9) x0 m x (n : Int) 7 = spec_Reduce.l0 k x0 m ((256 * x + (bytesOf x0).getD n 0) % m) ((n + 1 : Nat) : Int) := by
  have hm : 0 < m := by omega
  have nn : ∀ y : Int, 0 ≤ y % m ∧ y % m < m := fun y => ⟨Int.emod_nonneg _ (by omega), Int.emod_lt_of_pos _ hm⟩
  obtain ⟨b, hb⟩ : ∃ b, b = bt x0 (n : Int) := ⟨_, rfl⟩
  have hr := bt_range x0 (n : Int)
  have e7 : spec_Reduce.l1 (k + 9) x0 m x (n : Int) 7 = spec_Reduce.l1 (k + 8) x0 m ((2 * x + b / 2 ^ 7 % 2) % m) (n : Int) (6) := hb ▸ spBit x0 m x n 7 (k + 8) h0 h1 h4 hn (by omega)
  have e6 : ∀ y : Int, spec_Reduce.l1 (k + 8) x0 m (y % m) (n : Int) 6 = spec_Reduce.l1 (k + 7) x0 m ((2 * (y % m) + b / 2 ^ 6 % 2) % m) (n : Int) (5) := fun y => hb ▸ spBit x0 m (y % m) n 6 (k + 7) (nn y).1 (nn y).2 h4 hn (by omega)
  have e5 : ∀ y : Int, spec_Reduce.l1 (k + 7) x0 m (y % m) (n : Int) 5 = spec_Reduce.l1 (k + 6) x0 m ((2 * (y % m) + b / 2 ^ 5 % 2) % m) (n : Int) (4) := fun y => hb ▸ spBit x0 m (y % m) n 5 (k + 6) (nn y).1 (nn y).2 h4 hn (by omega)
  have e4 : ∀ y : Int, spec_Reduce.l1 (k + 6) x0 m (y % m) (n : Int) 4 = spec_Reduce.l1 (k + 5) x0 m ((2 * (y % m) + b / 2 ^ 4 % 2) % m) (n : Int) (3) := fun y => hb ▸ spBit x0 m (y % m) n 4 (k + 5) (nn y).1 (nn y).2 h4 hn (by omega)
  have e3 : ∀ y : Int, spec_Reduce.l1 (k + 5) x0 m (y % m) (n : Int) 3 = spec_Reduce.l1 (k + 4) x0 m ((2 * (y % m) + b / 2 ^ 3 % 2) % m) (n : Int) (2) := fun y => hb ▸ spBit x0 m (y % m) n 3 (k + 4) (nn y).1 (nn y).2 h4 hn (by omega)
  have e2 : ∀ y : Int, spec_Reduce.l1 (k + 4) x0 m (y % m) (n : Int) 2 = spec_Reduce.l1 (k + 3) x0 m ((2 * (y % m) + b / 2 ^ 2 % 2) % m) (n : Int) (1) := fun y => hb ▸ spBit x0 m (y % m) n 2 (k + 3) (nn y).1 (nn y).2 h4 hn (by omega)
  have e1 : ∀ y : Int, spec_Reduce.l1 (k + 3) x0 m (y % m) (n : Int) 1 = spec_Reduce.l1 (k + 2) x0 m ((2 * (y % m) + b / 2 ^ 1 % 2) % m) (n : Int) (0) := fun y => hb ▸ spBit x0 m (y % m) n 1 (k + 2) (nn y).1 (nn y).2 h4 hn (by omega)
  have e0 : ∀ y : Int, spec_Reduce.l1 (k + 2) x0 m (y % m) (n : Int) 0 = spec_Reduce.l1 (k + 1) x0 m ((2 * (y % m) + b / 2 ^ 0 % 2) % m) (n : Int) (-1) := fun y => hb ▸ spBit x0 m (y % m) n 0 (k + 1) (nn y).1 (nn y).2 h4 hn (by omega)
  have i4 : wrap64 ((n : Int) + 1) = ((n + 1 : Nat) : Int) := by unfold wrap64; omega
  rw [e7, e6, twice_mod, e5, twice_mod, e4, twice_mod, e3, twice_mod, e2, twice_mod, e1, twice_mod, e0, twice_mod, spec_Reduce.l1, if_neg (by omega), i4, ← bt_nat', ← hb]
  rw [← hb] at hr
  congr 2
  clear e7 e6 e5 e4 e3 e2 e1 e0 nn i4 hb
  omega
end Go.Proofs.YtjbiklbhelknfaaDoor.P
end
section
namespace Go.Proofs.YtjbiklbhelknfaaDoor.P
open Go.RowKit Go.Proofs.YtjbiklbhelknfaaDoorW.PrintWords Go.Proofs.YtjbiklbhelknfaaDoorW.PrintLast Go.Proofs.YtjbiklbhelknfaaDoorW.PrintMore
set_option linter.unusedVariables false
set_option linter.unusedSimpArgs false
/-- The bytes as a number, reduced as they come. -/
def redL (m : Int) : List Int → Int → Int
  | [], x => x
  | b :: l, x => redL m l ((256 * x + b) % m)
theorem redL_range (m : Int) (hm : 0 < m) : ∀ (l : List Int) (x : Int), 0 ≤ x → x < m → 0 ≤ redL m l x ∧ redL m l x < m := by
  intro l
  induction l with
  | nil => intro x h0 h1; exact ⟨h0, h1⟩
  | cons b l ih => intro x h0 h1; exact ih _ (Int.emod_nonneg _ (by omega)) (Int.emod_lt_of_pos _ hm)
theorem drop_getD (l : List Int) (n : Nat) (h : n < l.length) : l.drop n = l.getD n 0 :: l.drop (n + 1) := by
  rw [List.drop_eq_getElem_cons h, List.getD_eq_getElem?_getD, List.getElem?_eq_getElem h]
  rfl
theorem spAll (x0 : ByteArray) (m : Int) (hm : 0 < m) (h4 : m < 18446744073709551616) (hs : x0.size ≤ 65535) : ∀ d n k x, n + d = x0.size → 10 * d + 1 ≤ k → 0 ≤ x → x < m →
    spec_Reduce.l0 k x0 m x (n : Int) = some (redL m ((bytesOf x0).drop n) x) := by
  intro d
  induction d with
  | zero =>
    intro n k x hn hk h0 h1
    obtain ⟨k, rfl⟩ : ∃ j, k = j + 1 := ⟨k - 1, by omega⟩
    rw [spec_Reduce.l0, if_neg (by omega), List.drop_eq_nil_of_le (by rw [bytesOf_length]; omega)]
    rfl
  | succ d ih =>
    intro n k x hn hk h0 h1
    obtain ⟨k, rfl⟩ : ∃ j, k = j + 9 + 1 := ⟨k - 10, by omega⟩
    rw [spec_Reduce.l0, if_pos (by omega), spByte x0 m x n k h0 h1 h4 (by omega) hs, drop_getD _ _ (by rw [bytesOf_length]; omega)]
    exact ih (n + 1) k _ (by omega) (by omega) (Int.emod_nonneg _ (by omega)) (Int.emod_lt_of_pos _ hm)
theorem imAll (x0 : ByteArray) (m : Int) (hm : 0 < m) (h4 : m < 18446744073709551616) (hs : x0.size ≤ 65535) : ∀ d n k x, n + d = x0.size → d + 1 ≤ k → 0 ≤ x → x < m →
    impl_Reduce.l0 k x0 m x (x0.size : Int) (n : Int) = some (redL m ((bytesOf x0).drop n) x) := by
  intro d
  induction d with
  | zero =>
    intro n k x hn hk h0 h1
    obtain ⟨k, rfl⟩ : ∃ j, k = j + 1 := ⟨k - 1, by omega⟩
    rw [impl_Reduce.l0, if_neg (by omega), List.drop_eq_nil_of_le (by rw [bytesOf_length]; omega)]
    rfl
  | succ d ih =>
    intro n k x hn hk h0 h1
    obtain ⟨k, rfl⟩ : ∃ j, k = j + 1 := ⟨k - 1, by omega⟩
    have hb := bt_range x0 (n : Int)
    have i4 : wrap64 ((n : Int) + 1) = ((n + 1 : Nat) : Int) := by unfold wrap64; omega
    have e1 : IntKind.u64.wrap (x * 256) = (x % 72057594037927936) * 256 := by rw [IntKind.wrap_u64]; omega
    have e2 : IntKind.u64.wrap (bt x0 (n : Int)) = bt x0 (n : Int) := by rw [IntKind.wrap_u64]; omega
    have eor : Go.bits .or .u64 ((x % 72057594037927936) * 256) (bt x0 (n : Int)) = (x % 72057594037927936) * 256 + bt x0 (n : Int) := or_low (k := 8) (by decide) (by omega) (by omega) (by omega) hb.1 (by omega)
    have ed : bits_Div64.f (x / 72057594037927936) ((x % 72057594037927936) * 256 + bt x0 (n : Int)) m = some ((256 * x + bt x0 (n : Int)) / m, (256 * x + bt x0 (n : Int)) % m) := by
      unfold bits_Div64.f
      rw [if_pos (by omega), show x / 72057594037927936 * 18446744073709551616 + (x % 72057594037927936 * 256 + bt x0 (n : Int)) = 256 * x + bt x0 (n : Int) by omega]
    rw [impl_Reduce.l0, if_pos (by omega), if_pos (Int.natCast_nonneg _), if_pos (by omega), e1, e2, eor, ed, Option.bind_some, i4, drop_getD _ _ (by rw [bytesOf_length]; omega), ← bt_nat']
    exact ih (n + 1) k _ (by omega) (by omega) (Int.emod_nonneg _ (by omega)) (Int.emod_lt_of_pos _ hm)
/-- What both reductions of a text come to. -/
def redS (s : ByteArray) (m : Int) : Int := redL m (bytesOf s) 0
theorem spReduce (s : ByteArray) (m : Int) (k : Nat) (hm : 0 < m) (h4 : m < 18446744073709551616) (hs : s.size ≤ 65535) (hk : 10 * s.size + 2 ≤ k) : spec_Reduce.f k s m = some (redS s m) := by
  obtain ⟨k, rfl⟩ : ∃ j, k = j + 1 := ⟨k - 1, by omega⟩
  unfold spec_Reduce.f
  rw [if_neg (by omega), decide_eq_false (by omega), spec_Reduce.j0, if_neg (by decide)]
  exact spAll s m hm h4 hs s.size 0 k 0 (by omega) (by omega) (by omega) hm
theorem imReduce (s : ByteArray) (m : Int) (k : Nat) (hm : 0 < m) (h4 : m < 18446744073709551616) (hs : s.size ≤ 65535) (hk : s.size + 2 ≤ k) : impl_Reduce.f k s m = some (redS s m) := by
  obtain ⟨k, rfl⟩ : ∃ j, k = j + 1 := ⟨k - 1, by omega⟩
  unfold impl_Reduce.f
  rw [if_neg (by omega), decide_eq_false (by omega), impl_Reduce.j0, if_neg (by decide)]
  exact imAll s m hm h4 hs s.size 0 k 0 (by omega) (by omega) (by omega) hm
end Go.Proofs.YtjbiklbhelknfaaDoor.P
end
section
namespace Go.Proofs.YtjbiklbhelknfaaDoor.P
open Go.RowKit Go.Proofs.YtjbiklbhelknfaaDoorW.PrintWords Go.Proofs.YtjbiklbhelknfaaDoorW.PrintLast Go.Proofs.YtjbiklbhelknfaaDoorW.PrintMore
set_option linter.unusedVariables false
set_option linter.unusedSimpArgs false

theorem spTurn (x : Int) (n : Nat) (h1 : 1 ≤ n) (h2 : n ≤ 31) : spec_l1Turn.f x (n : Int) = some (rotr n x) := by
  have e1 : IntKind.u64.wrap (n : Int) = (n : Int) := by rw [IntKind.wrap_u64]; omega
  have e2 : IntKind.u64.wrap (wrap64 (32 - (n : Int))) = ((32 - n : Nat) : Int) := by unfold wrap64; rw [IntKind.wrap_u64]; omega
  unfold spec_l1Turn.f
  rw [e1, e2, if_pos (by omega), if_pos (by omega)]
  unfold shr shl rotr
  simp only [Int.toNat_natCast]
  rw [show min n IntKind.u32.bits = n from Nat.min_eq_left (by show n ≤ 32; omega), show min (32 - n) IntKind.u32.bits = 32 - n from Nat.min_eq_left (by show 32 - n ≤ 32; omega), IntKind.wrap_u32]
theorem rd_nat (l : List Int) (i : Int) (n : Nat) (h : i = (n : Int)) : rd l i = l.getD n 0 := by rw [h, rd, Int.toNat_natCast]
theorem blk_getD (x : List Int) (p i : Nat) (hi : i < 64) : ((x.drop p).take 64).getD i 0 = x.getD (p + i) 0 := by
  simp only [List.getD_eq_getElem?_getD, List.getElem?_take, List.getElem?_drop, if_pos hi]

theorem spSched0 (x : List Int) (p : Nat) (hx : Bytes x) (hp : p + 64 ≤ x.length) (hl : x.length ≤ 140737488355328) (k n : Nat) (hn : n < 16) :
    spec_l1Schedule.l0 (k + 1) x (p : Int) (wList ((x.drop p).take 64) n) (n : Int) = spec_l1Schedule.l0 k x (p : Int) (wList ((x.drop p).take 64) (n + 1)) ((n + 1 : Nat) : Int) := by
  have b0 := hx.getD (p + 4 * n)
  have b1 := hx.getD (p + 4 * n + 1)
  have b2 := hx.getD (p + 4 * n + 2)
  have b3 := hx.getD (p + 4 * n + 3)
  have i0 : wrap64 ((p : Int) + wrap64 (4 * (n : Int))) = ((p + 4 * n : Nat) : Int) := by unfold wrap64; omega
  have i1 : wrap64 (((p + 4 * n : Nat) : Int) + 1) = ((p + 4 * n + 1 : Nat) : Int) := by unfold wrap64; omega
  have i2 : wrap64 (((p + 4 * n : Nat) : Int) + 2) = ((p + 4 * n + 2 : Nat) : Int) := by unfold wrap64; omega
  have i3 : wrap64 (((p + 4 * n : Nat) : Int) + 3) = ((p + 4 * n + 3 : Nat) : Int) := by unfold wrap64; omega
  have i4 : wrap64 ((n : Int) + 1) = ((n + 1 : Nat) : Int) := by unfold wrap64; omega
  have c0 : (n : Int) < 16 := by clear b0 b1 b2 b3 i0 i1 i2 i3 i4; omega
  have c1 : ((p + 4 * n : Nat) : Int) < (x.length : Int) := by clear b0 b1 b2 b3 i0 i1 i2 i3 i4; omega
  have c2 : ((p + 4 * n + 1 : Nat) : Int) < (x.length : Int) := by clear b0 b1 b2 b3 i0 i1 i2 i3 i4; omega
  have c3 : ((p + 4 * n + 2 : Nat) : Int) < (x.length : Int) := by clear b0 b1 b2 b3 i0 i1 i2 i3 i4; omega
  have c4 : ((p + 4 * n + 3 : Nat) : Int) < (x.length : Int) := by clear b0 b1 b2 b3 i0 i1 i2 i3 i4; omega
  have c5 : (wList ((x.drop p).take 64) n).length < 35184372088832 := by rw [wList_length]; clear b0 b1 b2 b3 i0 i1 i2 i3 i4; omega
  rw [spec_l1Schedule.l0, if_pos c0, i0, i1, i2, i3, i4]
  rw [if_pos (Int.natCast_nonneg _), if_pos c1, if_pos (Int.natCast_nonneg _), if_pos c2, if_pos (Int.natCast_nonneg _), if_pos c3, if_pos (Int.natCast_nonneg _), if_pos c4, if_pos c5]
  clear c0 c1 c2 c3 c4 c5 i0 i1 i2 i3 i4
  rw [rd_nat x _ _ rfl, rd_nat x _ _ rfl, rd_nat x _ _ rfl, rd_nat x _ _ rfl]
  congr 1
  rw [wList, if_pos hn, be4, blk_getD _ _ _ (by omega), blk_getD _ _ _ (by omega), blk_getD _ _ _ (by omega), blk_getD _ _ _ (by omega)]
  simp only [← Nat.add_assoc]
  generalize x.getD (p + 4 * n) 0 = y0 at b0 ⊢
  generalize x.getD (p + 4 * n + 1) 0 = y1 at b1 ⊢
  generalize x.getD (p + 4 * n + 2) 0 = y2 at b2 ⊢
  generalize x.getD (p + 4 * n + 3) 0 = y3 at b3 ⊢
  rw [show y0 % 4294967296 * 16777216 % 4294967296 = y0 * 16777216 by omega, show y1 % 4294967296 * 65536 % 4294967296 = y1 * 65536 by omega, show y2 % 4294967296 * 256 % 4294967296 = y2 * 256 by omega, show y3 % 4294967296 = y3 by omega]
theorem spSched1 (blk : List Int) (k n : Nat) (h16 : 16 ≤ n) (hn : n < 64) :
    spec_l1Schedule.l1 (k + 1) (wList blk n) (n : Int) = spec_l1Schedule.l1 k (wList blk (n + 1)) ((n + 1 : Nat) : Int) := by
  have i0 : wrap64 ((n : Int) - 15) = ((n - 15 : Nat) : Int) := by unfold wrap64; omega
  have i1 : wrap64 ((n : Int) - 2) = ((n - 2 : Nat) : Int) := by unfold wrap64; omega
  have i2 : wrap64 ((n : Int) - 16) = ((n - 16 : Nat) : Int) := by unfold wrap64; omega
  have i3 : wrap64 ((n : Int) - 7) = ((n - 7 : Nat) : Int) := by unfold wrap64; omega
  have i4 : wrap64 ((n : Int) + 1) = ((n + 1 : Nat) : Int) := by unfold wrap64; omega
  have hl := wList_length blk n
  rw [spec_l1Schedule.l1, if_pos (by omega), i0, i1, i2, i3, i4]
  rw [if_pos (by omega), if_pos (by omega), if_pos (by omega), if_pos (by omega)]
  rw [rd_nat _ _ _ rfl, rd_nat _ _ _ rfl, rd_nat _ _ _ rfl, rd_nat _ _ _ rfl]
  rw [show (7 : Int) = ((7 : Nat) : Int) from rfl, spTurn _ 7 (by omega) (by omega), show (18 : Int) = ((18 : Nat) : Int) from rfl, spTurn _ 18 (by omega) (by omega), show (17 : Int) = ((17 : Nat) : Int) from rfl, spTurn _ 17 (by omega) (by omega), show (19 : Int) = ((19 : Nat) : Int) from rfl, spTurn _ 19 (by omega) (by omega)]
  simp only [Option.bind_some]
  rw [if_pos (by omega), if_pos (by omega), if_pos (by omega), if_pos (by omega), if_pos (by omega)]
  congr 1
  rw [wList, if_neg (by omega), nextW, sg0, sg1]
  congr 2
  generalize Go.bits .xor .u32 (Go.bits .xor .u32 (rotr 7 ((wList blk n).getD (n - 15) 0)) (rotr 18 ((wList blk n).getD (n - 15) 0))) ((wList blk n).getD (n - 15) 0 / 8) = s0
  generalize Go.bits .xor .u32 (Go.bits .xor .u32 (rotr 17 ((wList blk n).getD (n - 2) 0)) (rotr 19 ((wList blk n).getD (n - 2) 0))) ((wList blk n).getD (n - 2) 0 / 1024) = s1
  generalize (wList blk n).getD (n - 16) 0 = a
  generalize (wList blk n).getD (n - 7) 0 = b
  omega
theorem spSched (x : List Int) (p : Nat) (hx : Bytes x) (hp : p + 64 ≤ x.length) (hl : x.length ≤ 140737488355328) (k : Nat) (hk : 66 ≤ k) :
    spec_l1Schedule.f k x (p : Int) = some (wList ((x.drop p).take 64) 64) := by
  have a0 : ∀ d n k, n + d = 16 → d + 50 ≤ k → spec_l1Schedule.l0 k x (p : Int) (wList ((x.drop p).take 64) n) (n : Int) = spec_l1Schedule.l1 (k - d - 1) (wList ((x.drop p).take 64) 16) 16 := by
    intro d
    induction d with
    | zero =>
      intro n k hn hk
      obtain rfl : n = 16 := by omega
      obtain ⟨k, rfl⟩ : ∃ j, k = j + 1 := ⟨k - 1, by omega⟩
      rw [spec_l1Schedule.l0, if_neg (by omega)]
      rfl
    | succ d ih =>
      intro n k hn hk
      obtain ⟨k, rfl⟩ : ∃ j, k = j + 1 := ⟨k - 1, by omega⟩
      rw [spSched0 x p hx hp hl k n (by omega), ih (n + 1) k (by omega) (by omega)]
      congr 1
      omega
  have a1 : ∀ d n k, n + d = 64 → 16 ≤ n → d + 1 ≤ k → spec_l1Schedule.l1 k (wList ((x.drop p).take 64) n) (n : Int) = some (wList ((x.drop p).take 64) 64) := by
    intro d
    induction d with
    | zero =>
      intro n k hn _ hk
      obtain rfl : n = 64 := by omega
      obtain ⟨k, rfl⟩ : ∃ j, k = j + 1 := ⟨k - 1, by omega⟩
      rw [spec_l1Schedule.l1, if_neg (by omega)]
    | succ d ih =>
      intro n k hn h16 hk
      obtain ⟨k, rfl⟩ : ∃ j, k = j + 1 := ⟨k - 1, by omega⟩
      rw [spSched1 _ k n h16 (by omega), ih (n + 1) k (by omega) (by omega) (by omega)]
  unfold spec_l1Schedule.f
  have e0 := a0 16 0 k (by omega) (by omega)
  have e1 := a1 48 16 (k - 16 - 1) (by omega) (by omega) (by omega)
  exact e0.trans e1
theorem spStep (x0 ks ws : List Int) (s : S8) (k n : Nat) (hn : n < 64) (h1 : ks.length = 64) (h2 : ws.length = 64) :
    spec_l1Block.l0 (k + 1) x0 ks ws s.a s.b s.c s.d s.e s.f s.g s.h (n : Int) =
      spec_l1Block.l0 k x0 ks ws (step8 s (ks.getD n 0) (ws.getD n 0)).a (step8 s (ks.getD n 0) (ws.getD n 0)).b (step8 s (ks.getD n 0) (ws.getD n 0)).c (step8 s (ks.getD n 0) (ws.getD n 0)).d (step8 s (ks.getD n 0) (ws.getD n 0)).e (step8 s (ks.getD n 0) (ws.getD n 0)).f (step8 s (ks.getD n 0) (ws.getD n 0)).g (step8 s (ks.getD n 0) (ws.getD n 0)).h ((n + 1 : Nat) : Int) := by
  have i4 : wrap64 ((n : Int) + 1) = ((n + 1 : Nat) : Int) := by unfold wrap64; omega
  have c0 : (n : Int) < 64 := by omega
  have c1 : (n : Int) < (ks.length : Int) := by omega
  have c2 : (n : Int) < (ws.length : Int) := by omega
  rw [spec_l1Block.l0, if_pos c0, i4]
  rw [show (6 : Int) = ((6 : Nat) : Int) from rfl, spTurn _ 6 (by omega) (by omega), show (11 : Int) = ((11 : Nat) : Int) from rfl, spTurn _ 11 (by omega) (by omega), show (25 : Int) = ((25 : Nat) : Int) from rfl, spTurn _ 25 (by omega) (by omega),
    show (2 : Int) = ((2 : Nat) : Int) from rfl, spTurn _ 2 (by omega) (by omega), show (13 : Int) = ((13 : Nat) : Int) from rfl, spTurn _ 13 (by omega) (by omega), show (22 : Int) = ((22 : Nat) : Int) from rfl, spTurn _ 22 (by omega) (by omega)]
  simp only [Option.bind_some]
  rw [if_pos (Int.natCast_nonneg _), if_pos c1, if_pos c2, rd_nat _ _ _ rfl, rd_nat _ _ _ rfl]
  clear c0 c1 c2 i4
  show spec_l1Block.l0 k x0 ks ws _ s.a s.b s.c _ s.e s.f s.g _ = spec_l1Block.l0 k x0 ks ws _ s.a s.b s.c _ s.e s.f s.g _
  have e1 : ∀ h b c k w u : Int, (((((h + b) % 4294967296 + c) % 4294967296 + k) % 4294967296 + w) % 4294967296 + u % 4294967296) % 4294967296 = (h + b + c + k + w + u) % 4294967296 := by intros; omega
  have e2 : ∀ d h b c k w : Int, (d + ((((h + b) % 4294967296 + c) % 4294967296 + k) % 4294967296 + w) % 4294967296) % 4294967296 = (d + (h + b + c + k + w)) % 4294967296 := by intros; omega
  rw [e1, e2]
  rfl
theorem spRounds (x0 ks ws : List Int) (s0 : S8) (h1 : ks.length = 64) (h2 : ws.length = 64) : ∀ d n k, n + d = 64 → d + 1 ≤ k →
    spec_l1Block.l0 k x0 ks ws (rounds8 ks ws n s0).a (rounds8 ks ws n s0).b (rounds8 ks ws n s0).c (rounds8 ks ws n s0).d (rounds8 ks ws n s0).e (rounds8 ks ws n s0).f (rounds8 ks ws n s0).g (rounds8 ks ws n s0).h (n : Int) =
    spec_l1Block.l0 (k - d) x0 ks ws (rounds8 ks ws 64 s0).a (rounds8 ks ws 64 s0).b (rounds8 ks ws 64 s0).c (rounds8 ks ws 64 s0).d (rounds8 ks ws 64 s0).e (rounds8 ks ws 64 s0).f (rounds8 ks ws 64 s0).g (rounds8 ks ws 64 s0).h 64 := by
  intro d
  induction d with
  | zero =>
    intro n k hn hk
    obtain rfl : n = 64 := by omega
    rfl
  | succ d ih =>
    intro n k hn hk
    obtain ⟨k, rfl⟩ : ∃ j, k = j + 1 := ⟨k - 1, by omega⟩
    rw [spStep x0 ks ws (rounds8 ks ws n s0) k n (by omega) h1 h2]
    have e := ih (n + 1) k (by omega) (by omega)
    rw [show k + 1 - (d + 1) = k - d by omega]
    exact e
theorem spBlock (s0 : S8) (x ks : List Int) (p : Nat) (hk : ks.length = 64) (hx : Bytes x) (hp : p + 64 ≤ x.length) (hl : x.length ≤ 140737488355328) (k : Nat) (hk2 : 66 ≤ k) :
    spec_l1Block.f k s0.list ks x (p : Int) = some (compress8 ks s0 ((x.drop p).take 64)).list := by
  unfold spec_l1Block.f
  rw [spSched x p hx hp hl k hk2]
  have e := spRounds s0.list ks (wList ((x.drop p).take 64) 64) s0 hk (wList_length _ _) 64 0 k (by omega) (by omega)
  obtain ⟨j, hj⟩ : ∃ j, k - 64 = j + 1 := ⟨k - 64 - 1, by omega⟩
  rw [hj] at e
  exact e.trans rfl
theorem spOut (s : S8) (k : Nat) (hk : 10 ≤ k) : spec_Sha256.l1 k s.list [] 0 = some (strOfNums (s.list.flatMap be32)) := by
  have st : ∀ (n : Nat) (out : List Int) (k : Nat), n < 8 → out.length ≤ 100 → spec_Sha256.l1 (k + 1) s.list out (n : Int) = spec_Sha256.l1 k s.list (out ++ be32 (s.list.getD n 0)) ((n + 1 : Nat) : Int) := by
    intro n out k hn ho
    have i4 : wrap64 ((n : Int) + 1) = ((n + 1 : Nat) : Int) := by unfold wrap64; omega
    rw [spec_Sha256.l1, if_pos (by omega), i4, if_pos (Int.natCast_nonneg _), if_pos (by show (n : Int) < 8; omega), rd_nat _ _ _ rfl, Option.bind_some, if_pos (by show out.length + 4 < _; omega)]
    rfl
  obtain ⟨k, rfl⟩ : ∃ j, k = j + 9 := ⟨k - 9, by omega⟩
  have e := st 0 [] (k + 8) (by omega) (by simp)
  refine e.trans ?_
  rw [st 1 _ (k + 7) (by omega) (by simp [be32]), st 2 _ (k + 6) (by omega) (by simp [be32]), st 3 _ (k + 5) (by omega) (by simp [be32]), st 4 _ (k + 4) (by omega) (by simp [be32]), st 5 _ (k + 3) (by omega) (by simp [be32]), st 6 _ (k + 2) (by omega) (by simp [be32]), st 7 _ (k + 1) (by omega) (by simp [be32])]
  rw [spec_Sha256.l1, if_neg (by omega)]
  rfl
theorem bytes_padList (s : ByteArray) : Bytes (padList s) := by
  unfold padList
  refine Bytes.append (Bytes.append (Bytes.append (bytes_bytesOf s) ?_) ?_) (bytes_be64 _)
  · intro x hx; obtain rfl := List.mem_singleton.1 hx; omega
  · intro x hx; obtain rfl := List.eq_of_mem_replicate hx; omega
theorem padList_eq (s : ByteArray) : padList s = padM (bytesOf s) := by unfold padList padM; rw [bytesOf_length]
theorem padM_length (m : List Int) : (padM m).length = 64 * ((m.length + 72) / 64) := by
  unfold padM padZeros
  simp only [List.length_append, List.length_cons, List.length_nil, List.length_replicate]
  show m.length + 1 + _ + 8 = _
  omega
theorem spBlocks (ks x : List Int) (hks : ks = roundK) (N : Nat) (hx : Bytes x) (hN : x.length = 64 * N) (hl : x.length ≤ 140737488355328) : ∀ d n k, n + d = N → d + 80 ≤ k →
    spec_Sha256.l0 k (stN x n).list ks x ((64 * n : Nat) : Int) = some (strOfNums ((stN x N).list.flatMap be32)) := by
  intro d
  induction d with
  | zero =>
    intro n k hn hk
    obtain rfl : n = N := by omega
    obtain ⟨k, rfl⟩ : ∃ j, k = j + 1 := ⟨k - 1, by omega⟩
    rw [spec_Sha256.l0, if_neg (by omega)]
    exact spOut _ _ (by omega)
  | succ d ih =>
    intro n k hn hk
    obtain ⟨k, rfl⟩ : ∃ j, k = j + 1 := ⟨k - 1, by omega⟩
    have i4 : wrap64 (((64 * n : Nat) : Int) + 64) = ((64 * (n + 1) : Nat) : Int) := by unfold wrap64; omega
    rw [spec_Sha256.l0, if_pos (by omega), i4, spBlock (stN x n) x ks (64 * n) (by rw [hks]; rfl) hx (by omega) hl k (by omega), Option.bind_some]
    have e := ih (n + 1) k (by omega) (by omega)
    rw [hks] at e ⊢
    exact e
theorem spSha (a0 : ByteArray) (k : Nat) (h : a0.size ≤ 70368744177664) (hk : (a0.size + 72) / 64 + 80 ≤ k) : spec_Sha256.f k a0 = some (shaS (bytesOf a0)) := by
  unfold spec_Sha256.f
  rw [show spec_l1K.f = some roundK from rfl, Option.bind_some, spec_l1Padded.f, if_pos h, Option.bind_some]
  have hl : (padList a0).length = 64 * ((a0.size + 72) / 64) := by rw [padList_eq, padM_length, bytesOf_length]
  have e := spBlocks roundK (padList a0) rfl ((a0.size + 72) / 64) (bytes_padList a0) hl (by rw [hl]; omega) ((a0.size + 72) / 64) 0 k (by omega) hk
  refine e.trans ?_
  unfold shaS shaNums stOf
  rw [← padList_eq, hl, Nat.mul_div_cancel_left _ (by omega)]
end Go.Proofs.YtjbiklbhelknfaaDoor.P
end
section
namespace Go.Proofs.YtjbiklbhelknfaaDoor.P
open Go.RowKit Go.Proofs.YtjbiklbhelknfaaDoorW.PrintWords Go.Proofs.YtjbiklbhelknfaaDoorW.PrintLast Go.Proofs.YtjbiklbhelknfaaDoorW.PrintMore
set_option linter.unusedVariables false
set_option linter.unusedSimpArgs false
theorem spLong64 : spec_l1Long.f 20 64 ⟨#[0]⟩ = some (strOfNums (List.replicate 64 0)) := by decide +kernel
theorem spLong32 : spec_l1Long.f 20 32 ⟨#[0]⟩ = some (strOfNums (List.replicate 32 0)) := by decide +kernel
theorem bt_nat (s : ByteArray) (n : Nat) : bt s (n : Int) = (bytesOf s).getD n 0 := by
  unfold bt bytesOf
  rw [List.getD_eq_getElem?_getD, List.getElem?_map, Array.getElem?_toList]
  by_cases h : n < s.size
  · rw [dif_pos (by rw [Int.toNat_natCast]; exact h), Array.getElem?_eq_getElem (show n < s.data.size from h)]
    simp only [Int.toNat_natCast]
    rfl
  · rw [dif_neg (by rw [Int.toNat_natCast]; exact h), Array.getElem?_eq_none (by show s.data.size ≤ n; have : s.size = s.data.size := rfl; omega)]
    rfl
theorem spBoth (a b : ByteArray) (ha : a.size ≤ 1000) (hb : a.size ≤ b.size) : ∀ d n k, n + d = a.size → d + 1 ≤ k → spec_l4Both.l0 k a b (xorN (bytesOf a) (bytesOf b) n) (n : Int) = some (strOfNums (xorL (bytesOf a) (bytesOf b))) := by
  intro d
  induction d with
  | zero =>
    intro n k hn hk
    obtain rfl : n = a.size := by omega
    obtain ⟨k, rfl⟩ : ∃ j, k = j + 1 := ⟨k - 1, by omega⟩
    rw [spec_l4Both.l0, if_neg (by omega), xorN_all _ _ _ (by rw [bytesOf_length]; exact Nat.le_refl _)]
  | succ d ih =>
    intro n k hn hk
    obtain ⟨k, rfl⟩ : ∃ j, k = j + 1 := ⟨k - 1, by omega⟩
    have i4 : wrap64 ((n : Int) + 1) = ((n + 1 : Nat) : Int) := by unfold wrap64; omega
    have hl : (xorN (bytesOf a) (bytesOf b) n).length = n := xorN_length _ _ _ (by rw [bytesOf_length]; omega) (by rw [bytesOf_length]; omega)
    rw [spec_l4Both.l0, if_pos (by omega), if_pos (Int.natCast_nonneg _), if_pos (by omega), if_pos (by omega), i4, bt_nat, bt_nat, ← xorN_succ _ _ _ (by rw [bytesOf_length]; omega) (by rw [bytesOf_length]; omega)]
    exact ih (n + 1) k (by omega) (by omega)
theorem strOfNums_append (a b : List Int) : strOfNums a ++ strOfNums b = strOfNums (a ++ b) := by
  apply ByteArray.ext
  apply Array.toList_inj.1
  rw [ByteArray.data_append, Array.toList_append, strOfNums_data, strOfNums_data, strOfNums_data, List.map_append]
theorem spXmd (b0 T : ByteArray) (n : Int) (hb : b0.size = 32) (hT : T.size ≤ 256) (h0 : 1 ≤ n) (h1 : n ≤ 8160) (N : Nat) (hN : N = (n.toNat + 31) / 32) : ∀ d j k, j + d = N → d + 200 ≤ k →
    spec_ExpandMessage.l0 k n T b0 (strOfNums (xb (bytesOf b0) T j)) (strOfNums (xAll (bytesOf b0) T j)) ((j : Int) + 1) = some (strOfNums ((xAll (bytesOf b0) T N).take n.toNat), true) := by
  intro d
  induction d with
  | zero =>
    intro j k hj hk
    obtain rfl : j = N := by omega
    obtain ⟨k, rfl⟩ : ∃ j, k = j + 1 := ⟨k - 1, by omega⟩
    rw [spec_ExpandMessage.l0, if_neg (by rw [strOfNums_size, xAll_length]; omega), if_pos (by omega), if_pos (by rw [strOfNums_size, xAll_length]; omega), strOfNums_extract]
  | succ d ih =>
    intro j k hj hk
    obtain ⟨k, rfl⟩ : ∃ j, k = j + 1 := ⟨k - 1, by omega⟩
    have i4 : wrap64 ((j : Int) + 1 + 1) = ((j + 1 : Nat) : Int) + 1 := by unfold wrap64; omega
    have hz : (strOfNums (xb (bytesOf b0) T j)).size = 32 := by rw [strOfNums_size, xb_length]
    have eb : spec_l4Both.f k b0 (strOfNums (xb (bytesOf b0) T j)) = some (strOfNums (xorL (bytesOf b0) (xb (bytesOf b0) T j))) := by
      have e := spBoth b0 (strOfNums (xb (bytesOf b0) T j)) (by omega) (by omega) 32 0 k (by omega) (by omega)
      rw [bytesOf_strOfNums _ (bytes_xb _ _ _)] at e
      exact e
    have hx : (xorL (bytesOf b0) (xb (bytesOf b0) T j)).length = 32 := by rw [xorL, List.length_zipWith, bytesOf_length, xb_length, hb]; rfl
    rw [spec_ExpandMessage.l0, if_pos (by rw [strOfNums_size, xAll_length]; omega), eb, Option.bind_some, Option.bind_some, i4]
    rw [if_pos (by rw [strOfNums_size, strOfNums_size, hx]; show 32 + 1 ≤ _; omega), strOfNums_append, if_pos (by rw [strOfNums_size, List.length_append, hx]; show 32 + 1 + _ ≤ _; omega)]
    have es : spec_Sha256.f k (strOfNums (xorL (bytesOf b0) (xb (bytesOf b0) T j) ++ [((j : Int) + 1) % 256]) ++ T) = some (strOfNums (xb (bytesOf b0) T (j + 1))) := by
      rw [spSha _ k (by rw [ByteArray.size_append, strOfNums_size, List.length_append, hx]; show 32 + 1 + _ ≤ _; omega) (by rw [ByteArray.size_append, strOfNums_size, List.length_append, hx]; show (32 + 1 + _ + 72) / 64 + 80 ≤ k; omega)]
      congr 1
      rw [bytesOf_append, bytesOf_strOfNums _ (Bytes.append (bytes_xorL _ _ (bytes_bytesOf _) (bytes_xb _ _ _)) (by intro x hx; obtain rfl := List.mem_singleton.1 hx; omega))]
      rfl
    rw [es, Option.bind_some, if_pos (by rw [strOfNums_size, strOfNums_size, xAll_length, xb_length]; omega), strOfNums_append]
    exact ih (j + 1) k (by omega) (by omega)
theorem leO_up {α : Type} {f : Nat → Option α} (h : ∀ k, LeO (f k) (f (k + 1))) {k m : Nat} (hk : k ≤ m) {r : α} (e : f k = some r) : f m = some r := by
  obtain ⟨d, rfl⟩ := Nat.exists_eq_add_of_le hk
  induction d with
  | zero => exact e
  | succ d ih => exact h _ _ (ih (by omega))
theorem spLong64' (k : Nat) (hk : 20 ≤ k) : spec_l1Long.f k 64 ⟨#[0]⟩ = some (strOfNums (List.replicate 64 0)) := leO_up (spec_l1Long.mono 64 ⟨#[0]⟩) hk spLong64
theorem spLong32' (k : Nat) (hk : 20 ≤ k) : spec_l1Long.f k 32 ⟨#[0]⟩ = some (strOfNums (List.replicate 32 0)) := leO_up (spec_l1Long.mono 32 ⟨#[0]⟩) hk spLong32
theorem spPre (msg tag : ByteArray) (n : Int) (h0 : 1 ≤ n) (h1 : n ≤ 8160) :
    shaS (bytesOf (((strOfNums (List.replicate 64 0) ++ msg) ++ strOfNums [(wrap64 (Int.tdiv n 256)) % 256, n % 256, 0]) ++ tagS tag)) = b0S msg tag n := by
  unfold b0S
  congr 1
  have e : wrap64 (Int.tdiv n 256) = n / 256 := by rw [Int.tdiv_eq_ediv_of_nonneg (by omega)]; unfold wrap64; omega
  rw [bytesOf_append, bytesOf_append, bytesOf_append, bytesOf_strOfNums _ (by intro x hx; obtain rfl := List.eq_of_mem_replicate hx; omega), e,
    bytesOf_strOfNums [n / 256 % 256, n % 256, 0] (by intro x hx; simp only [List.mem_cons, List.not_mem_nil, or_false] at hx; rcases hx with rfl | rfl | rfl <;> omega)]
  simp only [be16, List.append_assoc, List.cons_append, List.nil_append]
theorem spExpand (a0 a1 : ByteArray) (a2 : Int) (k : Nat) (h0 : a0.size ≤ 1048576) (h1 : a1.size ≤ 1048576) (hk : 2000 ≤ k) : spec_ExpandMessage.f k a0 a1 a2 = impl_ExpandMessage.f a0 a1 a2 := by
  obtain ⟨k, rfl⟩ : ∃ j, k = j + 1 := ⟨k - 1, by omega⟩
  have no : spec_ExpandMessage.j0 (k + 1) a0 a1 a2 true = some (⟨#[]⟩, false) := by rw [spec_ExpandMessage.j0, if_pos rfl]
  unfold spec_ExpandMessage.f impl_ExpandMessage.f
  rw [if_pos (show a0.size ≤ 281474976710656 ∧ a1.size ≤ 281474976710656 by omega), no]
  by_cases c1 : a1.size < 1
  · rw [if_pos (by omega), if_pos c1]
  rw [if_neg (by omega), if_neg c1]
  by_cases c2 : 255 < a1.size
  · rw [if_pos (by omega), if_pos c2]
  rw [if_neg (by omega), if_neg c2]
  by_cases c3 : a2 < 1
  · rw [if_pos c3, if_pos c3]
  rw [if_neg c3, if_neg c3]
  by_cases c4 : 8160 < a2
  · rw [if_pos c4, if_pos c4]
  rw [if_neg c4, if_neg c4]
  by_cases c5 : 65535 < a0.size
  · rw [show decide ((a0.size : Int) > 65535) = true from decide_eq_true (by omega), no, if_pos c5]
  rw [show decide ((a0.size : Int) > 65535) = false from decide_eq_false (by omega), if_neg c5]
  rw [spec_ExpandMessage.j0, if_neg (by decide), Option.bind_some, show ((a1.size : Int)) % 256 = (a1.size : Int) % 256 from rfl, show a1 ++ strOfNums [(a1.size : Int) % 256] = tagS a1 from rfl]
  have ht : (tagS a1).size = a1.size + 1 := by rw [tagS, ByteArray.size_append, strOfNums_size]; rfl
  have hz : (strOfNums (List.replicate 64 0)).size = 64 := by rw [strOfNums_size]; rfl
  rw [if_pos (by rw [strOfNums_size]; show a1.size + 1 ≤ _; omega), spLong64' k (by omega), Option.bind_some, if_pos (by rw [hz]; omega), Option.bind_some,
    if_pos (by rw [ByteArray.size_append, hz, strOfNums_size]; show 64 + a0.size + 3 ≤ _; omega), if_pos (by rw [ByteArray.size_append, ByteArray.size_append, hz, ht, strOfNums_size]; show 64 + a0.size + 3 + _ ≤ _; omega)]
  have es := spSha (((strOfNums (List.replicate 64 0) ++ a0) ++ strOfNums [(wrap64 (Int.tdiv a2 256)) % 256, a2 % 256, 0]) ++ tagS a1) k (by rw [ByteArray.size_append, ByteArray.size_append, ByteArray.size_append, hz, ht, strOfNums_size]; show 64 + a0.size + 3 + _ ≤ _; omega) (by rw [ByteArray.size_append, ByteArray.size_append, ByteArray.size_append, hz, ht, strOfNums_size]; show (64 + a0.size + 3 + _ + 72) / 64 + 80 ≤ k; omega)
  rw [spPre a0 a1 a2 (by omega) (by omega)] at es
  rw [es, Option.bind_some, spLong32' k (by omega), Option.bind_some]
  exact spXmd (b0S a0 a1 a2) (tagS a1) a2 (shaS_size _) (by omega) (by omega) (by omega) ((a2.toNat + 31) / 32) rfl ((a2.toNat + 31) / 32) 0 k (by omega) (by omega)
end Go.Proofs.YtjbiklbhelknfaaDoor.P
end
section
namespace Go.Proofs.YtjbiklbhelknfaaDoor.P
open Go.RowKit Go.Proofs.YtjbiklbhelknfaaDoorW.PrintWords Go.Proofs.YtjbiklbhelknfaaDoorW.PrintLast Go.Proofs.YtjbiklbhelknfaaDoorW.PrintMore
set_option linter.unusedVariables false
set_option linter.unusedSimpArgs false
/-- The numbers of the pieces of 24 bytes from piece i on, n of them. -/
def redF (s : ByteArray) (m : Int) (i : Nat) : Nat → List Int
  | 0 => []
  | n + 1 => redS (s.extract (24 * i) (24 * i + 24)) m :: redF s m (i + 1) n
theorem redF_length (s : ByteArray) (m : Int) : ∀ n i, (redF s m i n).length = n := by
  intro n
  induction n with
  | zero => intro i; rfl
  | succ n ih => intro i; rw [redF, List.length_cons, ih]
theorem spFields (s : ByteArray) (m : Int) (hm : 0 < m) (h4 : m < 18446744073709551616) (c : Nat) (hc : c ≤ 340) (hs : s.size = 24 * c) : ∀ d i k acc, i + d = c → d + 300 ≤ k → acc.length ≤ i →
    spec_HashToField.l0 k m (c : Int) acc s true (i : Int) = some (acc ++ redF s m i d, true) := by
  intro d
  induction d with
  | zero =>
    intro i k acc hi hk ha
    obtain ⟨k, rfl⟩ : ∃ j, k = j + 1 := ⟨k - 1, by omega⟩
    rw [spec_HashToField.l0, if_neg (by omega), redF, List.append_nil]
  | succ d ih =>
    intro i k acc hi hk ha
    obtain ⟨k, rfl⟩ : ∃ j, k = j + 1 := ⟨k - 1, by omega⟩
    have e1 : wrap64 (24 * (i : Int)) = 24 * (i : Int) := by unfold wrap64; omega
    have e2 : wrap64 (24 * (i : Int) + 24) = 24 * (i : Int) + 24 := by unfold wrap64; omega
    have e3 : wrap64 ((i : Int) + 1) = ((i + 1 : Nat) : Int) := by unfold wrap64; omega
    have z : (s.extract (24 * i) (24 * i + 24)).size = 24 := by rw [ByteArray.size_extract]; omega
    rw [spec_HashToField.l0, if_pos (by omega), if_pos rfl, e1, e2, e3, if_pos (by omega), if_pos (by omega), if_pos (by omega),
      show (24 * (i : Int)).toNat = 24 * i by omega, show (24 * (i : Int) + 24).toNat = 24 * i + 24 by omega,
      spReduce _ m k hm h4 (by omega) (by omega), Option.bind_some, if_pos (by omega), ih (i + 1) k _ (by omega) (by omega) (by rw [List.length_append]; show acc.length + 1 ≤ _; omega), redF, List.append_assoc]
    rfl
theorem imFields (s : ByteArray) (m : Int) (hm : 0 < m) (h4 : m < 18446744073709551616) (c : Nat) (hc : c ≤ 340) (hs : s.size = 24 * c) : ∀ d i k acc, i + d = c → d + 300 ≤ k → acc.length ≤ i →
    impl_HashToField.l0 k m (s.extract (24 * i) s.size) acc = some (acc ++ redF s m i d, true) := by
  intro d
  induction d with
  | zero =>
    intro i k acc hi hk ha
    obtain ⟨k, rfl⟩ : ∃ j, k = j + 1 := ⟨k - 1, by omega⟩
    have z : (s.extract (24 * i) s.size).size = 0 := by rw [ByteArray.size_extract]; omega
    have e : (s.extract (24 * i) s.size).toList = [] := by rw [ByteArray.toList_eq]; exact List.eq_nil_of_length_eq_zero (by simpa using z)
    rw [impl_HashToField.l0, if_pos e, redF, List.append_nil]
  | succ d ih =>
    intro i k acc hi hk ha
    obtain ⟨k, rfl⟩ : ∃ j, k = j + 1 := ⟨k - 1, by omega⟩
    have z0 : (s.extract (24 * i) s.size).size = s.size - 24 * i := by rw [ByteArray.size_extract]; omega
    have ne : ¬ (s.extract (24 * i) s.size).toList = [] := by
      intro e
      rw [ByteArray.toList_eq] at e
      have := congrArg List.length e
      have h0 : (s.extract (24 * i) s.size).data.toList.length = (s.extract (24 * i) s.size).size := rfl
      rw [h0, z0] at this
      simp at this
      omega
    have x1 : (s.extract (24 * i) s.size).extract 0 24 = s.extract (24 * i) (24 * i + 24) := by rw [ByteArray.extract_extract]; congr 1; omega
    have x2 : (s.extract (24 * i) s.size).extract 24 (s.extract (24 * i) s.size).size = s.extract (24 * (i + 1)) s.size := by rw [z0, ByteArray.extract_extract]; congr 1; omega
    have z : (s.extract (24 * i) (24 * i + 24)).size = 24 := by rw [ByteArray.size_extract]; omega
    rw [impl_HashToField.l0, if_neg ne, if_pos (by omega), if_pos (by omega), x1, x2, imReduce _ m k hm h4 (by omega) (by omega), Option.bind_some, if_pos (by omega), ih (i + 1) k _ (by omega) (by omega) (by rw [List.length_append]; show acc.length + 1 ≤ _; omega), redF, List.append_assoc]
    rfl
theorem xmdS_size (msg tag : ByteArray) (n : Int) (h0 : 0 ≤ n) : (xmdS msg tag n).size = n.toNat := by
  rw [xmdS, strOfNums_size, List.length_take, xAll_length]
  omega
/-- HashToField's answer. -/
def htfS (msg tag : ByteArray) (m count : Int) : List Int × Bool :=
  if count < 1 then ([], false) else if 340 < count then ([], false) else if m = 0 then ([], false) else
    if tag.size < 1 then ([], false) else if 255 < tag.size then ([], false) else if 65535 < msg.size then ([], false) else (redF (xmdS msg tag (24 * count)) m 0 count.toNat, true)
theorem htfS_length (msg tag : ByteArray) (m count : Int) : (htfS msg tag m count).1.length ≤ 340 := by
  unfold htfS
  repeat' split
  all_goals first | exact Nat.zero_le _ | (show (redF _ _ _ _).length ≤ 340; rw [redF_length]; omega)
theorem spHtf (a0 a1 : ByteArray) (m c : Int) (k : Nat) (h0 : a0.size ≤ 1048576) (h1 : a1.size ≤ 1048576) (hm : 0 ≤ m) (h4 : m < 18446744073709551616) (hk : 20000 ≤ k) : spec_HashToField.f k a0 a1 m c = some (htfS a0 a1 m c) := by
  obtain ⟨k, rfl⟩ : ∃ j, k = j + 1 := ⟨k - 1, by omega⟩
  have no : spec_HashToField.j0 (k + 1) a0 a1 m c [] true = some ([], false) := by rw [spec_HashToField.j0, if_pos rfl]
  unfold spec_HashToField.f htfS
  rw [Option.bind_some, no]
  by_cases c1 : c < 1
  · rw [if_pos c1, if_pos c1]
  rw [if_neg c1, if_neg c1]
  by_cases c2 : 340 < c
  · rw [if_pos c2, if_pos c2]
  rw [if_neg c2, if_neg c2]
  by_cases c3 : m = 0
  · rw [show (m == 0) = true from beq_iff_eq.2 c3, no, if_pos c3]
  rw [show (m == 0) = false from beq_eq_false_iff_ne.2 c3, if_neg c3, spec_HashToField.j0, if_neg (by decide), show wrap64 (24 * c) = 24 * c from by unfold wrap64; omega, spExpand a0 a1 (24 * c) k h0 h1 (by omega)]
  unfold impl_ExpandMessage.f
  rw [if_pos (by omega)]
  obtain ⟨n, rfl⟩ : ∃ n : Nat, c = n := ⟨c.toNat, by omega⟩
  have out : ∀ s, spec_HashToField.l0 k m (n : Int) [] s false 0 = some ([], false) := by
    intro s
    obtain ⟨k, rfl⟩ : ∃ j, k = j + 1 := ⟨k - 1, by omega⟩
    rw [spec_HashToField.l0, if_pos (by omega), if_neg (by decide)]
  by_cases t1 : a1.size < 1
  · rw [if_pos t1, if_pos t1, Option.bind_some]; exact out _
  rw [if_neg t1, if_neg t1]
  by_cases t2 : 255 < a1.size
  · rw [if_pos t2, if_pos t2, Option.bind_some]; exact out _
  rw [if_neg t2, if_neg t2, if_neg (by omega), if_neg (by omega)]
  by_cases t3 : 65535 < a0.size
  · rw [if_pos t3, if_pos t3, Option.bind_some]; exact out _
  rw [if_neg t3, if_neg t3, Option.bind_some]
  exact spFields (xmdS a0 a1 (24 * (n : Int))) m (by omega) h4 n (by omega) (by rw [xmdS_size _ _ _ (by omega)]; omega) n 0 k [] (by omega) (by omega) (by simp)
theorem imHtf (a0 a1 : ByteArray) (m c : Int) (k : Nat) (h0 : a0.size ≤ 1048576) (h1 : a1.size ≤ 1048576) (hm : 0 ≤ m) (h4 : m < 18446744073709551616) (hk : 20000 ≤ k) : impl_HashToField.f k a0 a1 m c = some (htfS a0 a1 m c) := by
  obtain ⟨k, rfl⟩ : ∃ j, k = j + 1 := ⟨k - 1, by omega⟩
  have no : impl_HashToField.j0 (k + 1) a0 a1 m c true = some ([], false) := by rw [impl_HashToField.j0, if_pos rfl]
  unfold impl_HashToField.f htfS
  rw [no]
  by_cases c1 : c < 1
  · rw [if_pos c1, if_pos c1]
  rw [if_neg c1, if_neg c1]
  by_cases c2 : 340 < c
  · rw [if_pos c2, if_pos c2]
  rw [if_neg c2, if_neg c2]
  by_cases c3 : m = 0
  · rw [show (m == 0) = true from beq_iff_eq.2 c3, no, if_pos c3]
  rw [show (m == 0) = false from beq_eq_false_iff_ne.2 c3, if_neg c3, impl_HashToField.j0, if_neg (by decide), show wrap64 (24 * c) = 24 * c from by unfold wrap64; omega]
  unfold impl_ExpandMessage.f
  rw [if_pos (by omega)]
  by_cases t1 : a1.size < 1
  · rw [if_pos t1, if_pos t1, Option.bind_some, if_neg (by decide)]
  rw [if_neg t1, if_neg t1]
  by_cases t2 : 255 < a1.size
  · rw [if_pos t2, if_pos t2, Option.bind_some, if_neg (by decide)]
  rw [if_neg t2, if_neg t2, if_neg (by omega), if_neg (by omega)]
  by_cases t3 : 65535 < a0.size
  · rw [if_pos t3, if_pos t3, Option.bind_some, if_neg (by decide)]
  rw [if_neg t3, if_neg t3, Option.bind_some, if_pos rfl]
  obtain ⟨n, rfl⟩ : ∃ n : Nat, c = n := ⟨c.toNat, by omega⟩
  have e := imFields (xmdS a0 a1 (24 * (n : Int))) m (by omega) h4 n (by omega) (by rw [xmdS_size _ _ _ (by omega)]; omega) n 0 k [] (by omega) (by omega) (by simp)
  rw [show (xmdS a0 a1 (24 * (n : Int))).extract (24 * 0) (xmdS a0 a1 (24 * (n : Int))).size = xmdS a0 a1 (24 * (n : Int)) from ByteArray.extract_zero_size] at e
  exact e
end Go.Proofs.YtjbiklbhelknfaaDoor.P
end
section
namespace Go.Proofs.YtjbiklbhelknfaaDoor.P
open Go.RowKit Go.Proofs.YtjbiklbhelknfaaDoorW.PrintWords Go.Proofs.YtjbiklbhelknfaaDoorW.PrintLast Go.Proofs.YtjbiklbhelknfaaDoorW.PrintMore
set_option linter.unusedVariables false
set_option linter.unusedSimpArgs false
theorem eqAll (l : List Int) (hl : l.length ≤ 1000) : ∀ d n k, n + d = l.length → d + 1 ≤ k → laws_eqUint64S.l0 k l l (n : Int) = some true := by
  intro d
  induction d with
  | zero =>
    intro n k hn hk
    obtain ⟨k, rfl⟩ : ∃ j, k = j + 1 := ⟨k - 1, by omega⟩
    rw [laws_eqUint64S.l0, if_neg (by omega)]
  | succ d ih =>
    intro n k hn hk
    obtain ⟨k, rfl⟩ : ∃ j, k = j + 1 := ⟨k - 1, by omega⟩
    rw [laws_eqUint64S.l0, if_pos (by omega), if_pos (Int.natCast_nonneg _), if_pos (by omega), if_pos rfl, show wrap64 ((n : Int) + 1) = ((n + 1 : Nat) : Int) from by unfold wrap64; omega]
    exact ih (n + 1) k (by omega) (by omega)
theorem eqSame (l : List Int) (k : Nat) (hl : l.length ≤ 1000) (hk : 1001 ≤ k) : laws_eqUint64S.f k l l = some true := by
  unfold laws_eqUint64S.f
  rw [if_pos rfl]
  exact eqAll l hl l.length 0 k (by omega) (by omega)
/-- The marks m, m + 1, .. laid from place n on. -/
def marked (l : List Int) (n : Nat) : List Int := (List.range n).map (fun i : Nat => (i : Int) + 1) ++ l.drop n
theorem marked_length (l : List Int) (n : Nat) (h : n ≤ l.length) : (marked l n).length = l.length := by
  rw [marked, List.length_append, List.length_map, List.length_range, List.length_drop]; omega
theorem marked_set (l : List Int) (n : Nat) (h : n < l.length) : (marked l n).set n ((n : Int) + 1) = marked l (n + 1) := by
  unfold marked
  rw [List.set_append_right _ _ (by simp), List.range_succ, List.map_append, List.append_assoc]
  congr 1
  rw [List.length_map, List.length_range, Nat.sub_self, List.drop_eq_getElem_cons h]
  rfl
theorem marked_rd (l : List Int) (n m : Nat) (h : n < m) : rd (marked l m) (n : Int) = (n : Int) + 1 := by
  unfold rd marked
  rw [List.getD_eq_getElem?_getD, Int.toNat_natCast, List.getElem?_append_left (by simpa using h), List.getElem?_map, List.getElem?_range h]
  rfl
theorem markAll (l : List Int) (hl : l.length ≤ 1000) : ∀ d n k, n + d = l.length → d + 1 ≤ k → laws_markUint64S.l0 k (marked l n) ((n : Int) + 1) (n : Int) = some ((l.length : Int) + 1, marked l l.length) := by
  intro d
  induction d with
  | zero =>
    intro n k hn hk
    obtain ⟨k, rfl⟩ : ∃ j, k = j + 1 := ⟨k - 1, by omega⟩
    obtain rfl : n = l.length := by omega
    rw [laws_markUint64S.l0, if_neg (by rw [marked_length _ _ (Nat.le_refl _)]; omega)]
  | succ d ih =>
    intro n k hn hk
    obtain ⟨k, rfl⟩ : ∃ j, k = j + 1 := ⟨k - 1, by omega⟩
    rw [laws_markUint64S.l0, if_pos (by rw [marked_length _ _ (by omega)]; omega), if_pos (Int.natCast_nonneg _), show wrap64 ((n : Int) + 1) = ((n + 1 : Nat) : Int) from by unfold wrap64; omega,
      show wrap64 ((n : Int) + 1 + 1) = ((n + 1 : Nat) : Int) + 1 from by unfold wrap64; omega, show IntKind.u64.wrap ((n : Int) + 1) = (n : Int) + 1 from by rw [IntKind.wrap_u64]; omega, Int.toNat_natCast, marked_set _ _ (by omega)]
    exact ih (n + 1) k (by omega) (by omega)
theorem heldAll (l : List Int) (hl : l.length ≤ 1000) : ∀ d n k, n + d = l.length → d + 1 ≤ k → laws_heldUint64S.l0 k (marked l l.length) ((n : Int) + 1) (n : Int) = some ((l.length : Int) + 1) := by
  intro d
  induction d with
  | zero =>
    intro n k hn hk
    obtain ⟨k, rfl⟩ : ∃ j, k = j + 1 := ⟨k - 1, by omega⟩
    obtain rfl : n = l.length := by omega
    rw [laws_heldUint64S.l0, if_neg (by rw [marked_length _ _ (Nat.le_refl _)]; omega)]
  | succ d ih =>
    intro n k hn hk
    obtain ⟨k, rfl⟩ : ∃ j, k = j + 1 := ⟨k - 1, by omega⟩
    rw [laws_heldUint64S.l0, if_pos (by rw [marked_length _ _ (Nat.le_refl _)]; omega), if_pos (Int.natCast_nonneg _), marked_rd _ _ _ (by omega), show IntKind.u64.wrap ((n : Int) + 1) = (n : Int) + 1 from by rw [IntKind.wrap_u64]; omega, if_pos rfl,
      show wrap64 ((n : Int) + 1) = ((n + 1 : Nat) : Int) from by unfold wrap64; omega, show wrap64 ((n : Int) + 1 + 1) = ((n + 1 : Nat) : Int) + 1 from by unfold wrap64; omega]
    exact ih (n + 1) k (by omega) (by omega)
theorem FnExactHashToField_pure : laws_FnExactHashToField.Pure := by
  intro a0 a1 m c w0 w1 hm hc
  have hm0 : 0 ≤ m ∧ m ≤ 18446744073709551615 := by
    simp [Lit.wf, IntKind.min, IntKind.max, IntKind.signed, IntKind.bits] at hm
    omega
  refine ⟨30002, ?_⟩
  unfold laws_FnExactHashToField.f
  by_cases h0 : (a0.size : Int) > 1048576
  · rw [if_pos h0]
  rw [if_neg h0]
  by_cases h1 : (a1.size : Int) > 1048576
  · rw [if_pos h1]
  rw [if_neg h1, spHtf a0 a1 m c 30002 (by omega) (by omega) (by omega) (by omega) (by omega), imHtf a0 a1 m c 30002 (by omega) (by omega) (by omega) (by omega) (by omega), Option.bind_some, Option.bind_some]
  have hl := htfS_length a0 a1 m c
  have e2 := imHtf a0 a1 m c 30001 (by omega) (by omega) (by omega) (by omega) (by omega)
  generalize htfS a0 a1 m c = r at hl e2 ⊢
  have em := markAll r.1 (by omega) r.1.length 0 30001 (by omega) (by omega)
  have eh : ∀ k, 2000 ≤ k → laws_heldUint64S.f k (marked r.1 r.1.length) 1 = some ((r.1.length : Int) + 1) := fun k hk => heldAll r.1 (by omega) r.1.length 0 k (by omega) (by omega)
  have em' : laws_markUint64S.f 30001 r.1 1 = some ((r.1.length : Int) + 1, marked r.1 r.1.length) := em
  rw [eqSame _ _ (by omega) (by omega), Option.bind_some, if_pos rfl, show (r.2 != r.2) = false from by simp, laws_FnExactHashToField.j0, if_neg (by decide), em', Option.bind_some, eh _ (by omega), Option.bind_some,
    if_neg (by omega), if_pos rfl, e2, Option.bind_some, eqSame _ _ (by omega) (by omega), Option.bind_some, if_pos rfl, show (r.2 != r.2) = false from by simp, laws_FnExactHashToField.j1, if_neg (by decide), eh _ (by omega), Option.bind_some, if_neg (by omega), if_pos rfl]
end Go.Proofs.YtjbiklbhelknfaaDoor.P
end
section
namespace Go.Proofs.YtjbiklbhelknfaaDoor.fnExactHashToField
open Go.ChangeShapes Go.WideShapes Go.ChangeAt Go.RowKit
open Go.ChangeMaps (open_string shut_string)
set_option linter.unusedVariables false
set_option linter.unusedSimpArgs false
theorem own : ownKnob Tryd.prog.godebug = none := by kernel_rfl
theorem g_roundWords : Tryd.prog.globalNamed "loop.example/s02095/impl.roundWords" = some 3 := by kernel_rfl
theorem ty_roundWords : (Tryd.prog.globals[3]?).map (·.type) = some 156 := by kernel_rfl
theorem cells_a : Tryd.prog.cellsOf 156 = 64 := by kernel_rfl
theorem cells_e : Tryd.prog.cellsOf 97 = 1 := by kernel_rfl
def c_roundWords : Array Value := (P.roundK.map fun z => Value.int .u32 z).toArray
abbrev d_roundWords {H : Type} : DataW H := .agg (P.roundK.map fun z => .lit (.int .u32 z))
theorem reads_roundWords {H : Type} (enc : TypeId × Value → H) (W : World) (sp : Nat → Bool) : DataW.trod enc Tryd.prog W 0 sp true 3 156 c_roundWords.toList = some (d_roundWords, []) := by kernel_rfl
theorem var_roundWords {W : World} (h : laidMetH Tryd.prog Rows.fnExactHashToFieldRow.laid W) : W.var? Tryd.prog "loop.example/s02095/impl.roundWords" = some c_roundWords := by
  have h0 : laidMet Tryd.prog Rows.fnExactHashToFieldRow.laid W := h
  exact Lib.tabIs_of_head (k := .u32) (zs := P.roundK) g_roundWords ty_roundWords Tryd.underlying156 Tryd.underlying97 cells_e cells_a h0
theorem glob_roundWords {W : World} (h : laidMetH Tryd.prog Rows.fnExactHashToFieldRow.laid W) : P.Glob W := by
  have hv := var_roundWords h
  refine ⟨?_, fun i hi => ?_⟩
  · have c := World.var?_cell g_roundWords hv 0
    exact World.block_lt_of_cell? _ _ c
  · have c := World.var?_cell g_roundWords hv i
    rw [c, c_roundWords, List.getElem?_toArray, List.getElem?_map, List.getElem?_eq_getElem (by rw [P.roundK_length]; exact hi), Option.map_some, List.getD_eq_getElem?_getD, List.getElem?_eq_getElem (by rw [P.roundK_length]; exact hi)]
    rfl
set_option maxRecDepth 100000 in
theorem contract (H : Type) (enc : TypeId × Value → H) (W : World) (base : Nat) (args : Array Value) (ds gs : List (DataW H)) (before : List MemPlace)
    (hval0 : ∀ (j : Nat) t v, Tryd.f4.params[j]? = some t → args[j]? = some v → Value.okWide Tryd.prog W .any base t v)
    (hW : DataW.Whole enc Tryd.prog Tryd.f4.params.toList Rows.fnExactHashToFieldSpec.vars false W args.toList ds gs before)
    (hsz0 : (DataW.weightsEach Tryd.prog (Tryd.f4.params.toList ++ Rows.fnExactHashToFieldSpec.plain.varTypes Tryd.prog) (ds ++ gs)).all (· ≤ reachBytes) = true) (hL : laidMetH Tryd.prog Rows.fnExactHashToFieldRow.laid W) :
    Calls Tryd.prog 4 args W fun e W' => ∃ v, e = .returned v ∧ Rows.fnExactHashToFieldSpec.post enc Tryd.prog Tryd.f4 false true false false W args v W' := by
  have hval : ∀ (j : Nat) t v, Tryd.f4.params[j]? = some t → args[j]? = some v → Value.okWide Tryd.prog W .any base t v := hval0
  have hsz := hsz0
  have hW' := hW
  obtain ⟨p, q, hA0, hV0, rfl, hfz, hnd⟩ := hW
  have hA : DataW.TrodAll enc Tryd.prog W 0 (fun _ => true) true Tryd.f4.params.toList args.toList ds p := hA0
  have hV : DataW.TrodVars enc Tryd.prog W (fun _ => true) ["loop.example/s02095/impl.roundWords"] gs q := hV0
  rw [Tryd.params4] at hA hval hsz
  obtain ⟨v0, vs0, d0, ds0, p0, q0, hargs, rfl, rfl, h0, r0⟩ := trodAll_cons hA
  obtain ⟨v1, vs1, d1, ds1, p1, q1, rfl, rfl, rfl, h1, r1⟩ := trodAll_cons r0
  obtain ⟨v2, vs2, d2, ds2, p2, q2, rfl, rfl, rfl, h2, r2⟩ := trodAll_cons r1
  obtain ⟨v3, vs3, d3, ds3, p3, q3, rfl, rfl, rfl, h3, r3⟩ := trodAll_cons r2
  obtain ⟨rfl, rfl, rfl⟩ := trodAll_nil r3
  obtain rfl : args = #[v0, v1, v2, v3] := by cases args; simp_all
  obtain ⟨a0, rfl, rfl, rfl, y0⟩ := open_string Tryd.underlying9 (hval 0 9 v0 rfl rfl) h0
  have w0 : a0.size ≤ 140737488351232 := by
    have z := sized_string hsz (j := 0) (t := 9) rfl rfl
    rw [Array.length_toList] at z
    exact z
  obtain ⟨a1, rfl, rfl, rfl, y1⟩ := open_string Tryd.underlying9 (hval 1 9 v1 rfl rfl) h1
  have w1 : a1.size ≤ 140737488351232 := by
    have z := sized_string hsz (j := 1) (t := 9) rfl rfl
    rw [Array.length_toList] at z
    exact z
  obtain ⟨a2, rfl, rfl, rfl, w2⟩ := open_int Tryd.underlying22 (hval 2 22 v2 rfl rfl) h2
  obtain ⟨a3, rfl, rfl, rfl, w3⟩ := open_int Tryd.underlying3 (hval 3 3 v3 rfl rfl) h3
  obtain ⟨g, t, cs, fuel, d, p', rfl, hg, ht, hvar, hd, rfl⟩ := trodVars_one hV
  obtain rfl := Option.some.inj (g_roundWords.symm.trans hg)
  obtain rfl := Option.some.inj (ty_roundWords.symm.trans ht)
  obtain rfl : cs = c_roundWords := Option.some.inj (hvar.symm.trans (var_roundWords hL))
  obtain ⟨rfl, rfl⟩ := DataW.Trod.unique (v := .agg c_roundWords) ⟨fuel, hd⟩ ⟨3, reads_roundWords enc W _⟩
  clear hA0 hval0 hsz0 hsz
  refine (P.laws_FnExactHashToField.walk P.FnExactHashToField_pure a0 a1 a2 a3 W w0 w1 w2 w3 (glob_roundWords hL)).mono fun e W' ⟨he, bel⟩ => ?_
  subst he
  exact ⟨_, rfl, _, _, _, [], _, _, hW', trodAll_mk1 (shut_bool Tryd.underlying4 _), (trodAll_cons_mk (shut_string Tryd.underlying9 y0) (trodAll_cons_mk (shut_string Tryd.underlying9 y1) (trodAll_cons_mk (shut_int Tryd.underlying22 w2) (trodAll_cons_mk (shut_int Tryd.underlying3 w3) trodAll_mk0)))), ⟨3, 156, c_roundWords, 3, [], [], hg, ht, var?_below bel hg (glob_roundWords hL).1 hvar, reads_roundWords enc _ _, rfl, rfl⟩, bel.frame _, fun h => by cases h⟩
noncomputable def laidWorld (os : Os) : World := { World.holding Tryd.prog os ⟨#[], #[], []⟩ with heap := ((World.holding Tryd.prog os ⟨#[], #[], []⟩).heap.modify 3 fun
      | .cells _ t frozen => .cells c_roundWords t frozen
      | o => o) }
theorem of_map {α β γ : Type} {x : Option (α × β × γ)} {a : α} {b : β} (h : x.map (fun x => (x.1, x.2.1)) = some (a, b)) : ∃ c, x = some (a, b, c) := by
  obtain ⟨⟨a1, b1, c1⟩, rfl, e⟩ := Option.map_eq_some_iff.1 h
  cases e
  exact ⟨c1, rfl⟩
theorem laid_met (os : Os) : laidMet Tryd.prog Rows.fnExactHashToFieldRow.laid ((laidWorld os).forCall (fun _ _ => 0) ⟨#[], #[.string ByteArray.empty, .string ByteArray.empty, .int .u64 0, .int .i64 0], []⟩).memory :=
  laidMet_of_run' 8 (by kernel_rfl) (by kernel_rfl)
theorem reads (os : Os) {H : Type} (enc : TypeId × Value → H) : ∃ places, DataW.whole enc Tryd.prog ((laidWorld os).forCall (fun _ _ => 0) ⟨#[], #[.string ByteArray.empty, .string ByteArray.empty, .int .u64 0, .int .i64 0], []⟩).memory Tryd.f4.params.toList Rows.fnExactHashToFieldSpec.vars false (#[.string ByteArray.empty, .string ByteArray.empty, .int .u64 0, .int .i64 0] : Array Value).toList 8 = some ([.lit (.string []), .lit (.string []), .lit (.int .u64 0), .lit (.int .i64 0)], [d_roundWords], places) :=
  of_map (by kernel_rfl)
set_option maxRecDepth 100000 in
theorem lifted (os : Os) (started : os.Started) (H : Type) (enc : TypeId × Value → H) (F : Stop.Interp) :
    ReturnsInHanded {} Tryd.checked os 4 .any ((OpenSpec.ofChange Rows.fnExactHashToFieldSpec).preRow enc Tryd.prog Tryd.f4 Rows.fnExactHashToFieldRow.domain false Rows.fnExactHashToFieldRow.laid) (((OpenSpec.ofChange Rows.fnExactHashToFieldSpec).at F).post enc Tryd.prog Tryd.f4 false true false false) := by
  obtain ⟨places, hx⟩ := reads os enc
  refine returnsInHanded_of_row (C := Tryd.checked) (s := OpenSpec.ofChange Rows.fnExactHashToFieldSpec) own started (by kernel_rfl) Tryd.func4
    (witness_row_at (enc := enc) (C := Tryd.checked) false (laidWorld os) #[.string ByteArray.empty, .string ByteArray.empty, .int .u64 0, .int .i64 0] rfl (by kernel_rfl) (by kernel_rfl) (by kernel_rfl)
      (OpenSpec.preRow_of_cond 8 hx (by kernel_rfl) (fun k hk => by cases hk) (by kernel_rfl) (laid_met os))) ?_
  intro W base args ds gs before hval hW _ _ hsz hL _ _
  exact contract H enc W base args ds gs before hval hW hsz hL
theorem said : Rows.FnExactHashToFieldSaid :=
  OpenClaim.holds_of_cond 4 Tryd.f4 rfl rfl rfl rfl rfl rfl rfl ⟨rfl, rfl, rfl, rfl, rfl⟩ rfl rfl rfl rfl rfl (by kernel_rfl) Tryd.func4 (by kernel_rfl)
    (of_decide_eq_true (by kernel_rfl)) (by unfold Func.isWrapper; first | (rw [if_pos (by decide +kernel)]; kernel_rfl) | (rw [if_neg (by decide +kernel)]; exact ⟨rfl, rfl⟩))
    (fun os started H enc _ F => by rw [OpenClaim.pre_eq_preRow]; exact lifted os started H enc F)
theorem plain (f : FuncId) (fn : Func) (hf : Tryd.pinned.checked.prog.funcNamed "loop.example/s02095/laws.FnExactHashToField" = some f) (hfn : Tryd.pinned.checked.prog.funcs[f]? = some fn) :
    false = Tryd.pinned.checked.prog.looks [] ∧ ∀ (j : Nat) t, fn.params[j]? = some t → Tryd.pinned.checked.prog.wantsStandIn t = false := by
  obtain rfl : f = 4 := Option.some.inj ((show Tryd.prog.funcNamed "loop.example/s02095/laws.FnExactHashToField" = some 4 by kernel_rfl).symm.trans hf) |>.symm
  obtain rfl : fn = Tryd.f4 := (Option.some.inj (Tryd.func4.symm.trans hfn)).symm
  refine ⟨by kernel_rfl, fun j t ht => ?_⟩
  rw [Tryd.params4] at ht
  have hm : ∀ t ∈ [9, 22, 3], Tryd.prog.wantsStandIn t = false := by
    intro t ht
    simp only [List.mem_cons, List.not_mem_nil, or_false] at ht
    rcases ht with rfl | rfl | rfl <;> kernel_rfl
  exact hm t (by simpa using Array.mem_of_getElem? ht)
/-- The card. -/
theorem card : Rows.FnExactHashToFieldCardSaid :=
  Claim7.holds_tied_plain_at .later [] _ _ _ _ said (fun _ h => by cases h) (by kernel_rfl) (fun _ h => by cases h) fnExactHashToField_row_tie rfl ⟨rfl, rfl⟩ (by kernel_rfl) rfl plain (by kernel_rfl)
#print axioms card
end Go.Proofs.YtjbiklbhelknfaaDoor.fnExactHashToField
namespace Go.Proofs.YtjbiklbhelknfaaDoor
/-- The card, under a short name, for the claim. -/
theorem fnExactHashToField_holds : Rows.FnExactHashToFieldCardSaid := fnExactHashToField.card
end Go.Proofs.YtjbiklbhelknfaaDoor
end
