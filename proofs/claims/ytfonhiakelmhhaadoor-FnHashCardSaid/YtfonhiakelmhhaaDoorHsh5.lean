/- Hashes of the program are the reference's; Expand of fewer bytes is a beginning; ExpandMessage has as many bytes as asked for. Conditions: those of each theorem. Part 5 of 5. -/
import Derived.Test.YtfonhiakelmhhaaDoorHsh2
import Derived.Test.YtfonhiakelmhhaaDoorHsh3
import Derived.Test.YtfonhiakelmhhaaDoorHsh4
import Derived.Test.YtfonhiakelmhhaaDoorCards
import Derived.Test.YtfonhiakelmhhaaDoorTie
import Derived.Test.YtfonhiakelmhhaaDoorHsh1
import Derived.WalkKit
import Derived.ProofKit
import Derived.OpenShut
import Derived.ShutString
import Derived.ChangeOld
import Derived.ChangeVars
import Derived.Below
import Derived.SizedLaws
import Derived.WalkSmall
import Derived.Deep.DeepHandedRow
import Derived.Lib.LaidTab
import Derived.Stop.LaidErr
section
namespace Go.Proofs.YtfonhiakelmhhaaDoor.P
open Go.RowKit Go.Proofs.YtfonhiakelmhhaaDoorW.PrintWords Go.Proofs.YtfonhiakelmhhaaDoorW.PrintLast Go.Proofs.YtfonhiakelmhhaaDoorW.PrintMore
set_option linter.unusedVariables false
set_option linter.unusedSimpArgs false

mutual
def spec_ExpandMessage.j0 : Nat → ByteArray → ByteArray → Int → Bool → Option (ByteArray × Bool)
  | 0, _, _, _, _ => none
  | k + 1, x0, x1, x2, x33 => if x33 = true then (some ((⟨#[]⟩ : ByteArray), false)) else ((some (([((x1.size : Int)) % 256] : List Int) : List Int)).bind fun y487 => (if x1.size + (strOfNums y487).size ≤ 9223372036854775807 then ((spec_l1Long.f k 64 (⟨#[0]⟩ : ByteArray)).bind fun t490 => (if t490.size + x0.size ≤ 9223372036854775807 then ((some (([(wrap64 (Int.tdiv x2 256)) % 256, (x2) % 256, 0] : List Int) : List Int)).bind fun y491 => (if (t490 ++ x0).size + (strOfNums y491).size ≤ 9223372036854775807 then (if ((t490 ++ x0) ++ (strOfNums y491)).size + (x1 ++ (strOfNums y487)).size ≤ 9223372036854775807 then ((spec_Sha256.f k (((t490 ++ x0) ++ (strOfNums y491)) ++ (x1 ++ (strOfNums y487)))).bind fun t494 => ((spec_l1Long.f k 32 (⟨#[0]⟩ : ByteArray)).bind fun t495 => (spec_ExpandMessage.l0 k x2 (x1 ++ (strOfNums y487)) t494 t495 (⟨#[]⟩ : ByteArray) 1))) else (none)) else (none))) else (none))) else (none)))
def spec_ExpandMessage.l0 : Nat → Int → ByteArray → ByteArray → ByteArray → ByteArray → Int → Option (ByteArray × Bool)
  | 0, _, _, _, _, _, _ => none
  | k + 1, x2, x8, x9, x10, x11, x12 => if (x11.size : Int) < x2 then ((spec_l4Both.f k x9 x10).bind fun t496 => ((some (([(x12) % 256] : List Int) : List Int)).bind fun y497 => (if t496.size + (strOfNums y497).size ≤ 9223372036854775807 then (if (t496 ++ (strOfNums y497)).size + x8.size ≤ 9223372036854775807 then ((spec_Sha256.f k ((t496 ++ (strOfNums y497)) ++ x8)).bind fun t500 => (if x11.size + t500.size ≤ 9223372036854775807 then (spec_ExpandMessage.l0 k x2 x8 x9 t500 (x11 ++ t500) (wrap64 (x12 + 1))) else (none))) else (none)) else (none)))) else (if 0 ≤ x2 then (if x2 ≤ (x11.size : Int) then (some (x11.extract 0 (x2 : Int).toNat, true)) else (none)) else (none))
end
def spec_ExpandMessage.f (k : Nat) (a0 : ByteArray) (a1 : ByteArray) (a2 : Int) : Option (ByteArray × Bool) := if (a1.size : Int) < 1 then (spec_ExpandMessage.j0 k a0 a1 a2 true) else (if (a1.size : Int) > 255 then (spec_ExpandMessage.j0 k a0 a1 a2 true) else (if a2 < 1 then (spec_ExpandMessage.j0 k a0 a1 a2 true) else (if a2 > 8160 then (spec_ExpandMessage.j0 k a0 a1 a2 true) else (spec_ExpandMessage.j0 k a0 a1 a2 (decide ((a0.size : Int) > 65535))))))
def spec_ExpandMessage.T4 : Bool × List (List Nat × List Nat) := (true, [([], []), ([], []), ([0, 1], [0, 1]), ([], []), ([3], [3]), ([4], [4]), ([], []), ([6], [6]), ([5, 7], [5, 7]), ([8], [8]), ([2, 9], [2, 9]), ([], []), ([10, 11], [10, 11]), ([12, 0], [12]), ([13, 13, 0, 1, 2, 3, 4, 5, 6, 7, 8, 9, 10, 11, 12, 13], [13])])
def spec_ExpandMessage.B4 : List Nat := [0, 0, 3, 0, 8, 24, 0, 64, 248, 504, 1023, 0, 4095, 8191, 16383]
theorem spec_ExpandMessage.tab4 : rtab .any (opsOf Tryd.f30 4) = spec_ExpandMessage.T4 := by kernel_rfl
theorem spec_ExpandMessage.bits4 : waitsOk spec_ExpandMessage.T4.2 spec_ExpandMessage.B4 = true := by kernel_rfl
def spec_ExpandMessage.T10 : Bool × List (List Nat × List Nat) := (true, [([], []), ([], []), ([0, 1], [0, 1]), ([], []), ([3], [3]), ([4], [4]), ([5], [5]), ([2, 6], [2, 6]), ([], []), ([7, 8], [7, 8]), ([9, 2], [9]), ([10, 10, 0, 1, 2, 3, 4, 5, 6, 7, 8, 9, 10], [1, 10])])
def spec_ExpandMessage.B10 : List Nat := [0, 0, 3, 0, 8, 24, 56, 127, 0, 511, 1023, 2047]
theorem spec_ExpandMessage.tab10 : rtab .any (opsOf Tryd.f30 10) = spec_ExpandMessage.T10 := by kernel_rfl
theorem spec_ExpandMessage.bits10 : waitsOk spec_ExpandMessage.T10.2 spec_ExpandMessage.B10 = true := by kernel_rfl
set_option maxHeartbeats 8000000 in
set_option maxRecDepth 100000 in
theorem spec_ExpandMessage.calls (k : Nat) (a0 : ByteArray) (a1 : ByteArray) (a2 : Int) (r1 : ByteArray) (r2 : Bool) (w : World) (h : spec_ExpandMessage.f k a0 a1 a2 = some (r1, r2)) :
    Calls Tryd.prog 30 #[.string a0, .string a1, .int .i64 a2] w fun e w' => e = .returned (.tuple #[.string r1, .bool r2]) ∧ Below w.heap.size w w' := by
  have HB := Aside0.mk (Below.refl w.heap.size w)
  have H : (if (a1.size : Int) < 1 then (spec_ExpandMessage.j0 k a0 a1 a2 true) else (if (a1.size : Int) > 255 then (spec_ExpandMessage.j0 k a0 a1 a2 true) else (if a2 < 1 then (spec_ExpandMessage.j0 k a0 a1 a2 true) else (if a2 > 8160 then (spec_ExpandMessage.j0 k a0 a1 a2 true) else (spec_ExpandMessage.j0 k a0 a1 a2 (decide ((a0.size : Int) > 65535))))))) = some (r1, r2) := h
  clear h
  have HC4 := Aside0.mk H
  clear H
  go_enter Tryd.func30, Tryd.ntmps30
  go_upto_region 1 with (fail)
  go_cut [33] (fun v33 wc => ∃ (kq : Nat) (x33_3 : Bool), v33 = .bool x33_3 ∧ Aside0 (spec_ExpandMessage.j0 kq a0 a1 a2 x33_3 = some (r1, r2)) ∧ Aside0 (kq ≤ k) ∧ Aside0 (Below w.heap.size w wc))
  case first =>
    have H := HC4.out
    clear HC4
    by_cases c5 : (a1.size : Int) < 1
    · rw [if_pos c5] at H
      have c5b0 : decide ((a1.size : Int) < 1) = true := decide_eq_true c5
      have c5b1 : decide (a1.size < 1) = true := decide_eq_true (by omega)
      clear c5
      (first | rw [c5b0] | (simp only [i64_w, i32_w]; rw [c5b0]) | skip)
      have H' := Aside0.mk H
      clear H
      go_wp2
      go_meet
      case rel => exact ⟨_, (true), (by first | rfl | (simp; done) | (simp [*]; done)), H', ⟨by first | omega | exact Nat.le_refl _⟩, ⟨by repeat (first | (with_reducible first | exact HB.out | apply below_alloc | apply pw_below_drewN | apply below_drew1) | exact HB.out)⟩⟩
    · rw [if_neg c5] at H
      have c5b0 : decide ((a1.size : Int) < 1) = false := decide_eq_false c5
      have c5b1 : decide (a1.size < 1) = false := decide_eq_false (by omega)
      clear c5
      (first | rw [c5b0] | (simp only [i64_w, i32_w]; rw [c5b0]) | skip)
      by_cases c6 : (a1.size : Int) > 255
      · rw [if_pos c6] at H
        have c6b0 : decide (255 < (a1.size : Int)) = true := decide_eq_true c6
        have c6b1 : decide (255 < a1.size) = true := decide_eq_true (by omega)
        clear c6
        have H' := Aside0.mk H
        clear H
        go_wp2
        go_meet
        case rel => exact ⟨_, (true), (by first | rfl | (simp; done) | (simp [*]; done)), H', ⟨by first | omega | exact Nat.le_refl _⟩, ⟨by repeat (first | (with_reducible first | exact HB.out | apply below_alloc | apply pw_below_drewN | apply below_drew1) | exact HB.out)⟩⟩
      · rw [if_neg c6] at H
        have c6b0 : decide (255 < (a1.size : Int)) = false := decide_eq_false c6
        have c6b1 : decide (255 < a1.size) = false := decide_eq_false (by omega)
        clear c6
        by_cases c7 : a2 < 1
        · rw [if_pos c7] at H
          have c7b0 : decide (a2 < 1) = true := decide_eq_true c7
          clear c7
          have H' := Aside0.mk H
          clear H
          go_wp2
          go_meet
          case rel => exact ⟨_, (true), (by first | rfl | (simp; done) | (simp [*]; done)), H', ⟨by first | omega | exact Nat.le_refl _⟩, ⟨by repeat (first | (with_reducible first | exact HB.out | apply below_alloc | apply pw_below_drewN | apply below_drew1) | exact HB.out)⟩⟩
        · rw [if_neg c7] at H
          have c7b0 : decide (a2 < 1) = false := decide_eq_false c7
          clear c7
          by_cases c8 : a2 > 8160
          · rw [if_pos c8] at H
            have c8b0 : decide (8160 < a2) = true := decide_eq_true c8
            clear c8
            have H' := Aside0.mk H
            clear H
            go_wp2
            go_meet
            case rel => exact ⟨_, (true), (by first | rfl | (simp; done) | (simp [*]; done)), H', ⟨by first | omega | exact Nat.le_refl _⟩, ⟨by repeat (first | (with_reducible first | exact HB.out | apply below_alloc | apply pw_below_drewN | apply below_drew1) | exact HB.out)⟩⟩
          · rw [if_neg c8] at H
            have c8b0 : decide (8160 < a2) = false := decide_eq_false c8
            clear c8
            have H' := Aside0.mk H
            clear H
            go_wp2
            go_meet
            case rel => exact ⟨_, (decide ((a0.size : Int) > 65535)), (by first | rfl | (simp; done) | (simp [*]; done)), H', ⟨by first | omega | exact Nat.le_refl _⟩, ⟨by repeat (first | (with_reducible first | exact HB.out | apply below_alloc | apply pw_below_drewN | apply below_drew1) | exact HB.out)⟩⟩
  case rest =>
    clear HC4
    try clear p2
    try clear c3
    try clear c5
    try clear c5b0
    try clear c5b1
    try clear c6
    try clear c6b0
    try clear c6b1
    try clear c7
    try clear c7b0
    try clear c8
    try clear c8b0
    obtain ⟨kq, x33_3, rfl, HA, HJ3, HB⟩ := hcut
    cases kq with
    | zero => exact absurd HA.out (by simp [spec_ExpandMessage.j0])
    | succ kj3 =>
      have H := HA.out
      clear HA
      simp only [spec_ExpandMessage.j0] at H
      by_cases c9 : x33_3 = true
      · subst c9
        have H1 : (some ((⟨#[]⟩ : ByteArray), false)) = some (r1, r2) := by rw [if_pos rfl] at H; exact H
        clear H
        have H := H1
        clear H1
        simp only [Option.some.injEq, Prod.mk.injEq] at H
        obtain ⟨rfl, rfl⟩ := H
        go_wp2
        go_ret2
        exact ⟨by first | rfl | (simp [errW_none, errW_some] <;> rfl) | (simp [*, errW_none, errW_some] <;> rfl), by repeat (first | (with_reducible first | exact HB.out | apply below_alloc | apply pw_below_drewN | apply below_drew1) | exact HB.out)⟩
      · replace c9 := Bool.eq_false_iff.mpr c9
        subst c9
        have H1 : ((some (([((a1.size : Int)) % 256] : List Int) : List Int)).bind fun y487 => (if a1.size + (strOfNums y487).size ≤ 9223372036854775807 then ((spec_l1Long.f kj3 64 (⟨#[0]⟩ : ByteArray)).bind fun t490 => (if t490.size + a0.size ≤ 9223372036854775807 then ((some (([(wrap64 (Int.tdiv a2 256)) % 256, (a2) % 256, 0] : List Int) : List Int)).bind fun y491 => (if (t490 ++ a0).size + (strOfNums y491).size ≤ 9223372036854775807 then (if ((t490 ++ a0) ++ (strOfNums y491)).size + (a1 ++ (strOfNums y487)).size ≤ 9223372036854775807 then ((spec_Sha256.f kj3 (((t490 ++ a0) ++ (strOfNums y491)) ++ (a1 ++ (strOfNums y487)))).bind fun t494 => ((spec_l1Long.f kj3 32 (⟨#[0]⟩ : ByteArray)).bind fun t495 => (spec_ExpandMessage.l0 kj3 a2 (a1 ++ (strOfNums y487)) t494 t495 (⟨#[]⟩ : ByteArray) 1))) else (none)) else (none))) else (none))) else (none))) = some (r1, r2) := by rw [if_neg (show ¬ (false = true) by decide)] at H; exact H
        clear H
        have H := H1
        clear H1
        obtain ⟨y487, hy487⟩ : ∃ y_ : List Int, y_ = (([((a1.size : Int)) % 256] : List Int)) := ⟨_, rfl⟩
        replace H : (if a1.size + (strOfNums y487).size ≤ 9223372036854775807 then ((spec_l1Long.f kj3 64 (⟨#[0]⟩ : ByteArray)).bind fun t490 => (if t490.size + a0.size ≤ 9223372036854775807 then ((some (([(wrap64 (Int.tdiv a2 256)) % 256, (a2) % 256, 0] : List Int) : List Int)).bind fun y491 => (if (t490 ++ a0).size + (strOfNums y491).size ≤ 9223372036854775807 then (if ((t490 ++ a0) ++ (strOfNums y491)).size + (a1 ++ (strOfNums y487)).size ≤ 9223372036854775807 then ((spec_Sha256.f kj3 (((t490 ++ a0) ++ (strOfNums y491)) ++ (a1 ++ (strOfNums y487)))).bind fun t494 => ((spec_l1Long.f kj3 32 (⟨#[0]⟩ : ByteArray)).bind fun t495 => (spec_ExpandMessage.l0 kj3 a2 (a1 ++ (strOfNums y487)) t494 t495 (⟨#[]⟩ : ByteArray) 1))) else (none)) else (none))) else (none))) else (none)) = some (r1, r2) := by first | (rw [hy487]; with_reducible exact H) | (have H2_ := (Option.bind_some _ _).symm.trans H; rw [hy487]; with_reducible exact H2_) | (have H2_ := (Option.bind_some _ _).symm.trans H; with_reducible exact H2_) | with_reducible exact H | (rw [hy487]; exact H) | exact H
        have Ny487 := Aside0.mk hy487
        clear hy487
        by_cases c10 : a1.size + (strOfNums y487).size ≤ 9223372036854775807
        · rw [if_pos c10] at H
          have c10b0 := eq_true c10
          have c10b1 : decide (a1.size + (strOfNums y487).size ≤ 9223372036854775807) = true := decide_eq_true c10
          try have c10b2 : (9223372036854775807 < a1.size + (strOfNums y487).size) = False := eq_false (Nat.not_lt.2 c10)
          replace H := Option.bind_eq_some_iff.mp H
          obtain ⟨t490, A110, H⟩ := H
          replace H : (if t490.size + a0.size ≤ 9223372036854775807 then ((some (([(wrap64 (Int.tdiv a2 256)) % 256, (a2) % 256, 0] : List Int) : List Int)).bind fun y491 => (if (t490 ++ a0).size + (strOfNums y491).size ≤ 9223372036854775807 then (if ((t490 ++ a0) ++ (strOfNums y491)).size + (a1 ++ (strOfNums y487)).size ≤ 9223372036854775807 then ((spec_Sha256.f kj3 (((t490 ++ a0) ++ (strOfNums y491)) ++ (a1 ++ (strOfNums y487)))).bind fun t494 => ((spec_l1Long.f kj3 32 (⟨#[0]⟩ : ByteArray)).bind fun t495 => (spec_ExpandMessage.l0 kj3 a2 (a1 ++ (strOfNums y487)) t494 t495 (⟨#[]⟩ : ByteArray) 1))) else (none)) else (none))) else (none)) = some (r1, r2) := H
          have A11 := Aside0.mk A110
          clear A110
          by_cases c12 : t490.size + a0.size ≤ 9223372036854775807
          · rw [if_pos c12] at H
            have c12b0 := eq_true c12
            have c12b1 : decide (t490.size + a0.size ≤ 9223372036854775807) = true := decide_eq_true c12
            try have c12b2 : (9223372036854775807 < t490.size + a0.size) = False := eq_false (Nat.not_lt.2 c12)
            obtain ⟨y491, hy491⟩ : ∃ y_ : List Int, y_ = (([(wrap64 (Int.tdiv a2 256)) % 256, (a2) % 256, 0] : List Int)) := ⟨_, rfl⟩
            replace H : (if (t490 ++ a0).size + (strOfNums y491).size ≤ 9223372036854775807 then (if ((t490 ++ a0) ++ (strOfNums y491)).size + (a1 ++ (strOfNums y487)).size ≤ 9223372036854775807 then ((spec_Sha256.f kj3 (((t490 ++ a0) ++ (strOfNums y491)) ++ (a1 ++ (strOfNums y487)))).bind fun t494 => ((spec_l1Long.f kj3 32 (⟨#[0]⟩ : ByteArray)).bind fun t495 => (spec_ExpandMessage.l0 kj3 a2 (a1 ++ (strOfNums y487)) t494 t495 (⟨#[]⟩ : ByteArray) 1))) else (none)) else (none)) = some (r1, r2) := by first | (rw [hy491]; with_reducible exact H) | (have H2_ := (Option.bind_some _ _).symm.trans H; rw [hy491]; with_reducible exact H2_) | (have H2_ := (Option.bind_some _ _).symm.trans H; with_reducible exact H2_) | with_reducible exact H | (rw [hy491]; exact H) | exact H
            have Ny491 := Aside0.mk hy491
            clear hy491
            by_cases c13 : (t490 ++ a0).size + (strOfNums y491).size ≤ 9223372036854775807
            · rw [if_pos c13] at H
              have c13b0 := eq_true c13
              have c13b1 : decide ((t490 ++ a0).size + (strOfNums y491).size ≤ 9223372036854775807) = true := decide_eq_true c13
              try have c13b2 : (9223372036854775807 < (t490 ++ a0).size + (strOfNums y491).size) = False := eq_false (Nat.not_lt.2 c13)
              try (have c13b3 := c13b2; simp only [ByteArray.size_append] at c13b3)
              by_cases c14 : ((t490 ++ a0) ++ (strOfNums y491)).size + (a1 ++ (strOfNums y487)).size ≤ 9223372036854775807
              · rw [if_pos c14] at H
                have c14b0 := eq_true c14
                have c14b1 : decide (((t490 ++ a0) ++ (strOfNums y491)).size + (a1 ++ (strOfNums y487)).size ≤ 9223372036854775807) = true := decide_eq_true c14
                try have c14b2 : (9223372036854775807 < ((t490 ++ a0) ++ (strOfNums y491)).size + (a1 ++ (strOfNums y487)).size) = False := eq_false (Nat.not_lt.2 c14)
                try (have c14b3 := c14b2; simp only [ByteArray.size_append] at c14b3)
                replace H := Option.bind_eq_some_iff.mp H
                obtain ⟨t494, A150, H⟩ := H
                replace H : ((spec_l1Long.f kj3 32 (⟨#[0]⟩ : ByteArray)).bind fun t495 => (spec_ExpandMessage.l0 kj3 a2 (a1 ++ (strOfNums y487)) t494 t495 (⟨#[]⟩ : ByteArray) 1)) = some (r1, r2) := H
                have A15 := Aside0.mk A150
                clear A150
                replace H := Option.bind_eq_some_iff.mp H
                obtain ⟨t495, A160, H⟩ := H
                replace H : (spec_ExpandMessage.l0 kj3 a2 (a1 ++ (strOfNums y487)) t494 t495 (⟨#[]⟩ : ByteArray) 1) = some (r1, r2) := H
                have A16 := Aside0.mk A160
                clear A160
                have H' := Aside0.mk H
                clear H
                try go_wp2_with (first | ((with_reducible refine gate_dst (N := 38) rfl ?_); (try (refine gate_guard (by rfl) ?_; dsimp only)); refine Kd.R_lit (Kd.int .u8) _ 5 ?hg (N := 38) ?hd (xs := ([((a1.size : Int)) % 256] : List Int)) (inner := [.int .u8 (((a1.size : Int)) % 256)]) (ok := fun _ => True) (okp := fun _ => True) ?hr ?hp (fun _ hk => hk) trivial (Below.refl _ _) (Nat.le_refl _) (by simp) ?_; (case hd => rfl); (case hg => rfl); (case hr => first | (go_simp; done) | (go_simp; rfl)); (case hp => exact (Reps.one (show Kd.M (Kd.int .u8) _ _ _ (((a1.size : Int)) % 256) [.int .u8 (((a1.size : Int)) % 256)] from rfl) (Reps.none _ _))); intro v488 w17 ho18 hb hg_ hnew_; clear hg_ hnew_; (first | rw [← Ny487.out] at ho18 | (simp only [Int.reduceToNat] at ho18; rw [← Ny487.out] at ho18)); have n0_ := Aside0.mk (Kd.R_lower ho18 (below_size (by repeat (first | (with_reducible first | exact HB.out | apply below_alloc | apply pw_below_drewN | apply below_drew1) | exact HB.out)))); have n1_ := Aside0.mk (below_step (by repeat (first | (with_reducible first | exact HB.out | apply below_alloc | apply pw_below_drewN | apply below_drew1) | exact HB.out)) hb); clear HB; have HO489 := n0_; have HB := n1_; clear n0_ n1_; clear hb ho18; have hcv19 := own_string (P := Tryd.prog) Tryd.underlying40 Tryd.underlying5 Tryd.underlying9 (Kd.own_of_R HO489.out)))
                have n0_ := Aside0.mk (Kd.R_drew HO489.out)
                have n1_ := Aside0.mk (below_drew1 HB.out)
                clear HO489
                clear HB
                have HO489 := n0_
                have HB := n1_
                clear n0_ n1_
                refine start_ (n := 15) (S := fun w' => True) (ds := []) #[false, false, false, false, false, false, false, false, false, false, false, false, false, false, false] (by kernel_rfl) rfl rfl trivial (fun hHeld => ?_); refine with_tabW spec_ExpandMessage.tab4 spec_ExpandMessage.bits4 (fun HT_ HW_ => ?_)
                generalize w17.drew = w20 at HO489 HB hHeld ⊢
                refine pure_ (i := 1) (N := some 42) (v := ?_) (a' := ?_) #[false, true, false, false, false, false, false, false, false, false, false, false, false, false, false] rfl rfl (any_of HT_.out (by kernel_rfl)) (fun _ _ _ h => h) (Or.inl ⟨by rfl, ?_⟩) ?_ ?_
                rotate_left
                · intro w'
                  go_simp
                  with_reducible rfl
                rotate_left
                · simp only [Act.put, List.setIfInBounds_toArray, List.set_cons_zero, List.set_cons_succ, i64_w, i32_w]
                  rfl
                refine pure_ (i := 3) (N := some 44) (v := ?_) (a' := ?_) #[false, true, false, true, false, false, false, false, false, false, false, false, false, false, false] rfl rfl (any_of HT_.out (by kernel_rfl)) (fun _ _ _ h => h) (Or.inl ⟨by rfl, ?_⟩) ?_ ?_
                rotate_left
                · intro w'
                  go_simp
                  with_reducible rfl
                rotate_left
                · simp only [Act.put, List.setIfInBounds_toArray, List.set_cons_zero, List.set_cons_succ, i64_w, i32_w]
                  rfl
                refine pure_ (i := 4) (N := some 45) (v := ?_) (a' := ?_) #[false, true, false, true, true, false, false, false, false, false, false, false, false, false, false] rfl rfl (any_of HT_.out (by kernel_rfl)) (fun _ _ _ h => h) (Or.inl ⟨by rfl, ?_⟩) ?_ ?_
                rotate_left
                · intro w'
                  go_simp
                  with_reducible rfl
                rotate_left
                · simp only [Act.put, List.setIfInBounds_toArray, List.set_cons_zero, List.set_cons_succ, i64_w, i32_w]
                  rfl
                refine pure_ (i := 5) (N := some 46) (v := ?_) (a' := ?_) #[false, true, false, true, true, true, false, false, false, false, false, false, false, false, false] rfl rfl (any_of HT_.out (by kernel_rfl)) (fun _ _ _ h => h) (Or.inl ⟨by rfl, ?_⟩) ?_ ?_
                rotate_left
                · intro w'
                  go_simp
                  with_reducible rfl
                rotate_left
                · simp only [Act.put, List.setIfInBounds_toArray, List.set_cons_zero, List.set_cons_succ, i64_w, i32_w]
                  rfl
                refine pure_ (i := 6) (N := some 47) (v := ?_) (a' := ?_) #[false, true, false, true, true, true, true, false, false, false, false, false, false, false, false] rfl rfl (any_of HT_.out (by kernel_rfl)) (fun _ _ _ h => h) (Or.inl ⟨by rfl, ?_⟩) ?_ ?_
                rotate_left
                · intro w'
                  go_simp
                  with_reducible rfl
                rotate_left
                · simp only [Act.put, List.setIfInBounds_toArray, List.set_cons_zero, List.set_cons_succ, i64_w, i32_w]
                  rfl
                refine pure_ (i := 7) (N := some 48) (v := ?_) (a' := ?_) #[false, true, false, true, true, true, true, true, false, false, false, false, false, false, false] rfl rfl (any_of HT_.out (by kernel_rfl)) (fun _ _ _ h => h) (Or.inl ⟨by rfl, ?_⟩) ?_ ?_
                rotate_left
                · intro w'
                  go_simp
                  with_reducible rfl
                rotate_left
                · simp only [Act.put, List.setIfInBounds_toArray, List.set_cons_zero, List.set_cons_succ, i64_w, i32_w]
                  rfl
                refine pure_ (i := 11) (N := some 52) (v := ?_) (a' := ?_) #[false, true, false, true, true, true, true, true, false, false, false, true, false, false, false] rfl rfl (any_of HT_.out (by kernel_rfl)) (fun _ _ _ h => h) (Or.inl ⟨by rfl, ?_⟩) ?_ ?_
                rotate_left
                · intro w'
                  go_simp
                  with_reducible rfl
                rotate_left
                · simp only [Act.put, List.setIfInBounds_toArray, List.set_cons_zero, List.set_cons_succ, i64_w, i32_w]
                  rfl
                refine join_ (σ := Value) 4 #[true, true, true, true, true, true, true, true, true, true, false, true, false, false, false] (fun s_ => [(41, .string t490), (49, s_), (50, .string (strOfNums y491)), (43, .string (t490 ++ a0))]) (fun s_ w' => (Kd.R (Kd.int .u8) 5 w' w.heap.size (fun k_ => some k_ ≠ (s_ : Value).ownBlock) v488 y487) ∧ (Kd.R (Kd.int .u8) 5 w' w.heap.size (fun k_ => some k_ ≠ (v488 : Value).ownBlock) s_ y491) ∧ (Below w.heap.size w w')) ?_ ?_
                rotate_left
                · intro hCont
                  refine two_ (i := 0) (j := 8) (Ni := some 41) (Nj := some 49) #[true, true, false, true, true, true, true, true, false, false, false, true, false, false, false] #[false, true, false, true, true, true, true, true, true, false, false, true, false, false, false] rfl rfl rfl rfl (two_of HT_.out (by kernel_rfl)) (by decide) (by decide) (fun K hK => ?_) (fun K hK => ?_)
                  · skip
                    refine goes_ Tryd.func75 (by kernel_rfl) rfl #[.int .i64 64, .string (⟨#[0]⟩ : ByteArray)] (by rfl) rfl rfl (by (try simp only [List.map_toArray, List.map_cons, List.map_nil]); first | done | rfl | (simp only [List.length_drop, List.length_take]; rfl)) ?_
                    with_reducible refine (spec_l1Long.calls kj3 64 (⟨#[0]⟩ : ByteArray) t490 _ A11.out).mono ?_
                    rintro e w' ⟨rfl, ⟨nd, rfl⟩⟩
                    refine ⟨_, rfl, ?_⟩
                    refine hK.out _ _ trivial (fun hHeld => ?_)
                    clear hK K
                    refine norm_ (a' := ?_) ?_ ?_
                    rotate_left
                    · show Act.put _ (some 41) _ = _
                      simp only [Act.put, List.setIfInBounds_toArray, List.set_cons_zero, List.set_cons_succ, i64_w, i32_w]
                      rfl
                    refine pure_ (i := 2) (N := some 43) (v := ?_) (a' := ?_) #[true, true, true, true, true, true, true, true, false, false, false, true, false, false, false] rfl rfl (any_of HT_.out (by kernel_rfl)) (fun _ _ _ h => h) (Or.inl ⟨by rfl, ?_⟩) ?_ ?_
                    rotate_left
                    · intro w'
                      go_simp
                      with_reducible rfl
                    rotate_left
                    · simp only [Act.put, List.setIfInBounds_toArray, List.set_cons_zero, List.set_cons_succ, i64_w, i32_w]
                      rfl
                    refine one_ (i := 8) (N := some 49) #[true, true, true, true, true, true, true, true, true, false, false, true, false, false, false] rfl rfl (one_of HT_.out (by kernel_rfl)) (by decide) (fun K hK => ?_)
                    refine Kd.R_lit_step (Kd.int .u8) _ 5 ?hg (N := 49) ?hd (xs := ([(wrap64 (Int.tdiv a2 256)) % 256, (a2) % 256, 0] : List Int)) (inner := [.int .u8 ((wrap64 (Int.tdiv a2 256)) % 256), .int .u8 ((a2) % 256), .int .u8 0]) (ok := fun _ => True) (okp := fun _ => True) ?hr ?hp (fun _ hk => hk) trivial (Below.refl _ _) (Nat.le_refl _) (by simp) ?_; (case hd => rfl); (case hg => rfl); (case hr => first | (go_simp; done) | (go_simp; rfl)); (case hp => exact (Reps.one (show Kd.M (Kd.int .u8) _ _ _ ((wrap64 (Int.tdiv a2 256)) % 256) [.int .u8 ((wrap64 (Int.tdiv a2 256)) % 256)] from rfl) (Reps.one (show Kd.M (Kd.int .u8) _ _ _ ((a2) % 256) [.int .u8 ((a2) % 256)] from rfl) (Reps.one (show Kd.M (Kd.int .u8) _ _ _ 0 [.int .u8 0] from rfl) (Reps.none _ _)))))
                    intro v492 w21 ho22 hb hg_ hnew_
                    clear hg_ hnew_
                    (first | rw [← Ny491.out] at ho22 | (simp only [Int.reduceToNat] at ho22; rw [← Ny491.out] at ho22))
                    have n0_ := Aside0.mk (Kd.R_elder' (by (with_reducible repeat (first | apply Kd.R_alloc | apply Kd.R_drewN | apply Kd.R_drew)); exact HO489.out) (Kd.R_base ho22) hb)
                    have n1_ := Aside0.mk (Kd.R_lower (Kd.R_new' ho22 (Kd.R_lt (by (with_reducible repeat (first | apply Kd.R_alloc | apply Kd.R_drewN | apply Kd.R_drew)); exact HO489.out))) (below_size (by repeat (first | (with_reducible first | exact HB.out | apply below_alloc | apply pw_below_drewN | apply below_drew1) | exact HB.out))))
                    have n2_ := Aside0.mk (below_step (by repeat (first | (with_reducible first | exact HB.out | apply below_alloc | apply pw_below_drewN | apply below_drew1) | exact HB.out)) hb)
                    clear HO489
                    clear HB
                    have HO489 := n0_
                    have HO493 := n1_
                    have HB := n2_
                    clear n0_ n1_ n2_
                    clear hb ho22
                    refine hK.out _ _ trivial (fun hHeld => ?_)
                    clear hK K
                    refine norm_ (a' := ?_) ?_ ?_
                    rotate_left
                    · show Act.put _ (some 49) _ = _
                      simp only [Act.put, List.setIfInBounds_toArray, List.set_cons_zero, List.set_cons_succ, i64_w, i32_w]
                      rfl
                    refine one_ (i := 9) (N := some 50) #[true, true, true, true, true, true, true, true, true, true, false, true, false, false, false] rfl rfl (one_of HT_.out (by kernel_rfl)) (by decide) (fun K hK => ?_)
                    have hcv23 := own_string (P := Tryd.prog) Tryd.underlying40 Tryd.underlying5 Tryd.underlying9 (Kd.own_of_R HO493.out)
                    have hcv23q := fun nq : Nat => own_string (P := Tryd.prog) Tryd.underlying40 Tryd.underlying5 Tryd.underlying9 (pw_own_drewN (Kd.own_of_R HO493.out) nq)
                    refine value_ (w1 := ?_) (v := ?_) (by rfl) rfl ?_ ?_
                    rotate_left 2
                    · go_simp
                      constructor
                      · rfl
                      · rfl
                    clear hcv23
                    refine hK.out _ _ trivial (fun hHeld => ?_)
                    clear hK K
                    refine norm_ (a' := ?_) ?_ ?_
                    rotate_left
                    · show Act.put _ (some 50) _ = _
                      simp only [Act.put, List.setIfInBounds_toArray, List.set_cons_zero, List.set_cons_succ, i64_w, i32_w]
                      rfl
                    exact norm_ (by simp only [putAll, Act.put, List.setIfInBounds_toArray, List.set_cons_zero, List.set_cons_succ]) (hCont (v492) _ ⟨(by (with_reducible repeat (first | apply Kd.R_alloc | apply Kd.R_drewN | apply Kd.R_drew)); exact Kd.R_mono HO489.out (fun _ hk => hk.2)), (by (with_reducible repeat (first | apply Kd.R_alloc | apply Kd.R_drewN | apply Kd.R_drew)); exact Kd.R_mono HO493.out (fun _ hk => hk.2)), (by repeat (first | (with_reducible first | exact HB.out | apply below_alloc | apply pw_below_drewN | apply below_drew1) | exact HB.out))⟩)
                  · skip
                    refine Kd.R_lit_step (Kd.int .u8) _ 5 ?hg (N := 49) ?hd (xs := ([(wrap64 (Int.tdiv a2 256)) % 256, (a2) % 256, 0] : List Int)) (inner := [.int .u8 ((wrap64 (Int.tdiv a2 256)) % 256), .int .u8 ((a2) % 256), .int .u8 0]) (ok := fun _ => True) (okp := fun _ => True) ?hr ?hp (fun _ hk => hk) trivial (Below.refl _ _) (Nat.le_refl _) (by simp) ?_; (case hd => rfl); (case hg => rfl); (case hr => first | (go_simp; done) | (go_simp; rfl)); (case hp => exact (Reps.one (show Kd.M (Kd.int .u8) _ _ _ ((wrap64 (Int.tdiv a2 256)) % 256) [.int .u8 ((wrap64 (Int.tdiv a2 256)) % 256)] from rfl) (Reps.one (show Kd.M (Kd.int .u8) _ _ _ ((a2) % 256) [.int .u8 ((a2) % 256)] from rfl) (Reps.one (show Kd.M (Kd.int .u8) _ _ _ 0 [.int .u8 0] from rfl) (Reps.none _ _)))))
                    intro v492 w21 ho22 hb hg_ hnew_
                    clear hg_ hnew_
                    (first | rw [← Ny491.out] at ho22 | (simp only [Int.reduceToNat] at ho22; rw [← Ny491.out] at ho22))
                    have n0_ := Aside0.mk (Kd.R_elder' (by (with_reducible repeat (first | apply Kd.R_alloc | apply Kd.R_drewN | apply Kd.R_drew)); exact HO489.out) (Kd.R_base ho22) hb)
                    have n1_ := Aside0.mk (Kd.R_lower (Kd.R_new' ho22 (Kd.R_lt (by (with_reducible repeat (first | apply Kd.R_alloc | apply Kd.R_drewN | apply Kd.R_drew)); exact HO489.out))) (below_size (by repeat (first | (with_reducible first | exact HB.out | apply below_alloc | apply pw_below_drewN | apply below_drew1) | exact HB.out))))
                    have n2_ := Aside0.mk (below_step (by repeat (first | (with_reducible first | exact HB.out | apply below_alloc | apply pw_below_drewN | apply below_drew1) | exact HB.out)) hb)
                    clear HO489
                    clear HB
                    have HO489 := n0_
                    have HO493 := n1_
                    have HB := n2_
                    clear n0_ n1_ n2_
                    clear hb ho22
                    refine hK.out _ _ trivial (fun hHeld => ?_)
                    clear hK K
                    refine norm_ (a' := ?_) ?_ ?_
                    rotate_left
                    · show Act.put _ (some 49) _ = _
                      simp only [Act.put, List.setIfInBounds_toArray, List.set_cons_zero, List.set_cons_succ, i64_w, i32_w]
                      rfl
                    refine two_ (i := 0) (j := 9) (Ni := some 41) (Nj := some 50) #[true, true, false, true, true, true, true, true, true, false, false, true, false, false, false] #[false, true, false, true, true, true, true, true, true, true, false, true, false, false, false] rfl rfl rfl rfl (two_of HT_.out (by kernel_rfl)) (by decide) (by decide) (fun K hK => ?_) (fun K hK => ?_)
                    · skip
                      refine goes_ Tryd.func75 (by kernel_rfl) rfl #[.int .i64 64, .string (⟨#[0]⟩ : ByteArray)] (by rfl) rfl rfl (by (try simp only [List.map_toArray, List.map_cons, List.map_nil]); first | done | rfl | (simp only [List.length_drop, List.length_take]; rfl)) ?_
                      with_reducible refine (spec_l1Long.calls kj3 64 (⟨#[0]⟩ : ByteArray) t490 _ A11.out).mono ?_
                      rintro e w' ⟨rfl, ⟨nd, rfl⟩⟩
                      refine ⟨_, rfl, ?_⟩
                      refine hK.out _ _ trivial (fun hHeld => ?_)
                      clear hK K
                      refine norm_ (a' := ?_) ?_ ?_
                      rotate_left
                      · show Act.put _ (some 41) _ = _
                        simp only [Act.put, List.setIfInBounds_toArray, List.set_cons_zero, List.set_cons_succ, i64_w, i32_w]
                        rfl
                      refine pure_ (i := 2) (N := some 43) (v := ?_) (a' := ?_) #[true, true, true, true, true, true, true, true, true, false, false, true, false, false, false] rfl rfl (any_of HT_.out (by kernel_rfl)) (fun _ _ _ h => h) (Or.inl ⟨by rfl, ?_⟩) ?_ ?_
                      rotate_left
                      · intro w'
                        go_simp
                        with_reducible rfl
                      rotate_left
                      · simp only [Act.put, List.setIfInBounds_toArray, List.set_cons_zero, List.set_cons_succ, i64_w, i32_w]
                        rfl
                      refine one_ (i := 9) (N := some 50) #[true, true, true, true, true, true, true, true, true, true, false, true, false, false, false] rfl rfl (one_of HT_.out (by kernel_rfl)) (by decide) (fun K hK => ?_)
                      have hcv23 := own_string (P := Tryd.prog) Tryd.underlying40 Tryd.underlying5 Tryd.underlying9 (Kd.own_of_R HO493.out)
                      have hcv23q := fun nq : Nat => own_string (P := Tryd.prog) Tryd.underlying40 Tryd.underlying5 Tryd.underlying9 (pw_own_drewN (Kd.own_of_R HO493.out) nq)
                      refine value_ (w1 := ?_) (v := ?_) (by rfl) rfl ?_ ?_
                      rotate_left 2
                      · go_simp
                        constructor
                        · rfl
                        · rfl
                      clear hcv23
                      refine hK.out _ _ trivial (fun hHeld => ?_)
                      clear hK K
                      refine norm_ (a' := ?_) ?_ ?_
                      rotate_left
                      · show Act.put _ (some 50) _ = _
                        simp only [Act.put, List.setIfInBounds_toArray, List.set_cons_zero, List.set_cons_succ, i64_w, i32_w]
                        rfl
                      exact norm_ (by simp only [putAll, Act.put, List.setIfInBounds_toArray, List.set_cons_zero, List.set_cons_succ]) (hCont (v492) _ ⟨(by (with_reducible repeat (first | apply Kd.R_alloc | apply Kd.R_drewN | apply Kd.R_drew)); exact Kd.R_mono HO489.out (fun _ hk => hk.2)), (by (with_reducible repeat (first | apply Kd.R_alloc | apply Kd.R_drewN | apply Kd.R_drew)); exact Kd.R_mono HO493.out (fun _ hk => hk.2)), (by repeat (first | (with_reducible first | exact HB.out | apply below_alloc | apply pw_below_drewN | apply below_drew1) | exact HB.out))⟩)
                    · skip
                      have hcv23 := own_string (P := Tryd.prog) Tryd.underlying40 Tryd.underlying5 Tryd.underlying9 (Kd.own_of_R HO493.out)
                      have hcv23q := fun nq : Nat => own_string (P := Tryd.prog) Tryd.underlying40 Tryd.underlying5 Tryd.underlying9 (pw_own_drewN (Kd.own_of_R HO493.out) nq)
                      refine value_ (w1 := ?_) (v := ?_) (by rfl) rfl ?_ ?_
                      rotate_left 2
                      · go_simp
                        constructor
                        · rfl
                        · rfl
                      clear hcv23
                      refine hK.out _ _ trivial (fun hHeld => ?_)
                      clear hK K
                      refine norm_ (a' := ?_) ?_ ?_
                      rotate_left
                      · show Act.put _ (some 50) _ = _
                        simp only [Act.put, List.setIfInBounds_toArray, List.set_cons_zero, List.set_cons_succ, i64_w, i32_w]
                        rfl
                      refine one_ (i := 0) (N := some 41) #[true, true, false, true, true, true, true, true, true, true, false, true, false, false, false] rfl rfl (one_of HT_.out (by kernel_rfl)) (by decide) (fun K hK => ?_)
                      refine goes_ Tryd.func75 (by kernel_rfl) rfl #[.int .i64 64, .string (⟨#[0]⟩ : ByteArray)] (by rfl) rfl rfl (by (try simp only [List.map_toArray, List.map_cons, List.map_nil]); first | done | rfl | (simp only [List.length_drop, List.length_take]; rfl)) ?_
                      with_reducible refine (spec_l1Long.calls kj3 64 (⟨#[0]⟩ : ByteArray) t490 _ A11.out).mono ?_
                      rintro e w' ⟨rfl, ⟨nd, rfl⟩⟩
                      refine ⟨_, rfl, ?_⟩
                      refine hK.out _ _ trivial (fun hHeld => ?_)
                      clear hK K
                      refine norm_ (a' := ?_) ?_ ?_
                      rotate_left
                      · show Act.put _ (some 41) _ = _
                        simp only [Act.put, List.setIfInBounds_toArray, List.set_cons_zero, List.set_cons_succ, i64_w, i32_w]
                        rfl
                      refine pure_ (i := 2) (N := some 43) (v := ?_) (a' := ?_) #[true, true, true, true, true, true, true, true, true, true, false, true, false, false, false] rfl rfl (any_of HT_.out (by kernel_rfl)) (fun _ _ _ h => h) (Or.inl ⟨by rfl, ?_⟩) ?_ ?_
                      rotate_left
                      · intro w'
                        go_simp
                        with_reducible rfl
                      rotate_left
                      · simp only [Act.put, List.setIfInBounds_toArray, List.set_cons_zero, List.set_cons_succ, i64_w, i32_w]
                        rfl
                      exact norm_ (by simp only [putAll, Act.put, List.setIfInBounds_toArray, List.set_cons_zero, List.set_cons_succ]) (hCont (v492) _ ⟨(by (with_reducible repeat (first | apply Kd.R_alloc | apply Kd.R_drewN | apply Kd.R_drew)); exact Kd.R_mono HO489.out (fun _ hk => hk.2)), (by (with_reducible repeat (first | apply Kd.R_alloc | apply Kd.R_drewN | apply Kd.R_drew)); exact Kd.R_mono HO493.out (fun _ hk => hk.2)), (by repeat (first | (with_reducible first | exact HB.out | apply below_alloc | apply pw_below_drewN | apply below_drew1) | exact HB.out))⟩)
                rintro v492 w24 ⟨h0_, h1_, h2_⟩
                have n0_ : Aside0 (Kd.R (Kd.int .u8) 5 w24 w.heap.size (fun k_ => some k_ ≠ (v492 : Value).ownBlock) v488 y487) := ⟨h0_⟩
                have n1_ : Aside0 (Kd.R (Kd.int .u8) 5 w24 w.heap.size (fun k_ => some k_ ≠ (v488 : Value).ownBlock) v492 y491) := ⟨h1_⟩
                have n2_ : Aside0 (Below w.heap.size w w24) := ⟨h2_⟩
                clear HO489
                clear HB
                clear h0_ h1_ h2_
                have HO489 := n0_
                have HO493 := n1_
                have HB := n2_
                clear n0_ n1_ n2_
                have hHeld := trivial
                refine norm_ (a' := ?_) ?_ ?_
                rotate_left
                · simp only [putAll, Act.put, List.setIfInBounds_toArray, List.set_cons_zero, List.set_cons_succ]
                  rfl
                refine pure_ (i := 10) (N := some 51) (v := ?_) (a' := ?_) #[true, true, true, true, true, true, true, true, true, true, true, true, false, false, false] rfl rfl (any_of HT_.out (by kernel_rfl)) (fun _ _ _ h => h) (Or.inl ⟨by rfl, ?_⟩) ?_ ?_
                rotate_left
                · intro w'
                  go_simp
                  with_reducible rfl
                rotate_left
                · simp only [Act.put, List.setIfInBounds_toArray, List.set_cons_zero, List.set_cons_succ, i64_w, i32_w]
                  rfl
                refine pure_ (i := 12) (N := some 53) (v := ?_) (a' := ?_) #[true, true, true, true, true, true, true, true, true, true, true, true, true, false, false] rfl rfl (any_of HT_.out (by kernel_rfl)) (fun _ _ _ h => h) (Or.inl ⟨by rfl, ?_⟩) ?_ ?_
                rotate_left
                · intro w'
                  go_simp
                  with_reducible rfl
                rotate_left
                · simp only [Act.put, List.setIfInBounds_toArray, List.set_cons_zero, List.set_cons_succ, i64_w, i32_w]
                  rfl
                refine one_ (i := 13) (N := some 54) #[true, true, true, true, true, true, true, true, true, true, true, true, true, true, false] rfl rfl (one_of HT_.out (by kernel_rfl)) (by decide) (fun K hK => ?_)
                refine goes_ Tryd.func22 (by kernel_rfl) rfl #[.string (((t490 ++ a0) ++ (strOfNums y491)) ++ (a1 ++ (strOfNums y487)))] (by rfl) rfl rfl (by (try simp only [List.map_toArray, List.map_cons, List.map_nil]); first | done | rfl | (simp only [List.length_drop, List.length_take]; rfl)) ?_
                with_reducible refine (spec_Sha256.calls kj3 (((t490 ++ a0) ++ (strOfNums y491)) ++ (a1 ++ (strOfNums y487))) t494 _ A15.out).mono ?_
                rintro e w25 ⟨rfl, hb⟩
                refine ⟨_, rfl, ?_⟩
                have n0_ := Aside0.mk (Kd.R_below (by (with_reducible repeat (first | apply Kd.R_alloc | apply Kd.R_drewN | apply Kd.R_drew)); exact HO489.out) hb)
                have n1_ := Aside0.mk (Kd.R_below (by (with_reducible repeat (first | apply Kd.R_alloc | apply Kd.R_drewN | apply Kd.R_drew)); exact HO493.out) hb)
                have n2_ := Aside0.mk (below_step (by repeat (first | (with_reducible first | exact HB.out | apply below_alloc | apply pw_below_drewN | apply below_drew1) | exact HB.out)) hb)
                clear HO489
                clear HO493
                clear HB
                have HO489 := n0_
                have HO493 := n1_
                have HB := n2_
                clear n0_ n1_ n2_
                (try clear hb)
                (try clear hb2)
                (try clear hk)
                (try clear hi)
                refine hK.out _ _ trivial (fun hHeld => ?_)
                clear hK K
                refine norm_ (a' := ?_) ?_ ?_
                rotate_left
                · show Act.put _ (some 54) _ = _
                  simp only [Act.put, List.setIfInBounds_toArray, List.set_cons_zero, List.set_cons_succ, i64_w, i32_w]
                  rfl
                refine pure_ (i := 14) (N := some 9) (v := ?_) (a' := ?_) #[true, true, true, true, true, true, true, true, true, true, true, true, true, true, true] rfl rfl (any_of HT_.out (by kernel_rfl)) (fun _ _ _ h => h) (Or.inl ⟨by rfl, ?_⟩) ?_ ?_
                rotate_left
                · intro w'
                  go_simp
                  with_reducible rfl
                rotate_left
                · simp only [Act.put, List.setIfInBounds_toArray, List.set_cons_zero, List.set_cons_succ, i64_w, i32_w]
                  rfl
                refine done_ (done_of HT_.out (by kernel_rfl)) ?_
                try go_wp2_with (first | ((with_reducible refine gate_callee (f := 75) rfl ?_); refine goesL_ (some 55) rfl rfl Tryd.func75 (by kernel_rfl) rfl #[.int .i64 32, .string (⟨#[0]⟩ : ByteArray)] rfl (by (try simp only [List.map_toArray, List.map_cons, List.map_nil]); first | done | rfl | (simp only [List.length_drop, List.length_take]; rfl)) ?_; (with_reducible refine (spec_l1Long.calls kj3 32 (⟨#[0]⟩ : ByteArray) t495 _ A16.out).mono ?_); rintro e w' ⟨rfl, ⟨nd, rfl⟩⟩; refine ⟨_, rfl, ?_⟩))
                go_loopg [10, 11, 12] kj3 (fun kq v10 v11 v12 w' => ∃ (x10_2 : ByteArray) (x11_2 : ByteArray) (x12_2 : Int), v10 = .string x10_2 ∧ v11 = .string x11_2 ∧ v12 = .int .i64 x12_2 ∧ Aside0 (spec_ExpandMessage.l0 kq a2 (a1 ++ (strOfNums y487)) t494 x10_2 x11_2 x12_2 = some (r1, r2)) ∧ Aside0 (kq ≤ kj3) ∧ Aside0 (Below w.heap.size w w'))
                case atStart => exact ⟨(t495), ((⟨#[]⟩ : ByteArray)), (1), (by first | rfl | (simp; done) | (simp [*]; done)), (by first | rfl | (simp; done) | (simp [*]; done)), (by first | rfl | (simp; done) | (simp [*]; done)), H', ⟨Nat.le_refl _⟩, ⟨by repeat (first | (with_reducible first | exact HB.out | apply below_alloc | apply pw_below_drewN | apply below_drew1) | exact HB.out)⟩⟩
                case round =>
                  clear H'
                  try clear c1
                  try clear hcv1
                  try clear c2
                  try clear p2
                  try clear hcv2
                  try clear c3
                  try clear c5
                  try clear c5b0
                  try clear c5b1
                  try clear c6
                  try clear c6b0
                  try clear c6b1
                  try clear p6
                  try clear c7
                  try clear c7b0
                  try clear c8
                  try clear c8b0
                  try clear c9
                  try clear c10
                  try clear c10b0
                  try clear c10b1
                  try clear c10b2
                  try clear c12
                  try clear c12b0
                  try clear c12b1
                  try clear c12b2
                  try clear c13
                  try clear c13b0
                  try clear c13b1
                  try clear c13b2
                  try clear c14
                  try clear c14b0
                  try clear c14b1
                  try clear c14b2
                  try clear hcv19
                  try clear c22
                  try clear hcv23
                  try clear p2
                  obtain ⟨x10_2, x11_2, x12_2, rfl, rfl, rfl, HA, HK2, HB⟩ := hrel
                  cases gk with
                  | zero => exact absurd HA.out (by simp [spec_ExpandMessage.l0])
                  | succ k2 =>
                    have H := HA.out
                    clear HA
                    simp only [spec_ExpandMessage.l0] at H
                    by_cases c26 : (x11_2.size : Int) < a2
                    · rw [if_pos c26] at H
                      have c26b0 : decide ((x11_2.size : Int) < a2) = true := decide_eq_true c26
                      clear c26
                      replace H := Option.bind_eq_some_iff.mp H
                      obtain ⟨t496, A270, H⟩ := H
                      replace H : ((some (([(x12_2) % 256] : List Int) : List Int)).bind fun y497 => (if t496.size + (strOfNums y497).size ≤ 9223372036854775807 then (if (t496 ++ (strOfNums y497)).size + (a1 ++ (strOfNums y487)).size ≤ 9223372036854775807 then ((spec_Sha256.f k2 ((t496 ++ (strOfNums y497)) ++ (a1 ++ (strOfNums y487)))).bind fun t500 => (if x11_2.size + t500.size ≤ 9223372036854775807 then (spec_ExpandMessage.l0 k2 a2 (a1 ++ (strOfNums y487)) t494 t500 (x11_2 ++ t500) (wrap64 (x12_2 + 1))) else (none))) else (none)) else (none))) = some (r1, r2) := H
                      have A27 := Aside0.mk A270
                      clear A270
                      obtain ⟨y497, hy497⟩ : ∃ y_ : List Int, y_ = (([(x12_2) % 256] : List Int)) := ⟨_, rfl⟩
                      replace H : (if t496.size + (strOfNums y497).size ≤ 9223372036854775807 then (if (t496 ++ (strOfNums y497)).size + (a1 ++ (strOfNums y487)).size ≤ 9223372036854775807 then ((spec_Sha256.f k2 ((t496 ++ (strOfNums y497)) ++ (a1 ++ (strOfNums y487)))).bind fun t500 => (if x11_2.size + t500.size ≤ 9223372036854775807 then (spec_ExpandMessage.l0 k2 a2 (a1 ++ (strOfNums y487)) t494 t500 (x11_2 ++ t500) (wrap64 (x12_2 + 1))) else (none))) else (none)) else (none)) = some (r1, r2) := by first | (rw [hy497]; with_reducible exact H) | (have H2_ := (Option.bind_some _ _).symm.trans H; rw [hy497]; with_reducible exact H2_) | (have H2_ := (Option.bind_some _ _).symm.trans H; with_reducible exact H2_) | with_reducible exact H | (rw [hy497]; exact H) | exact H
                      have Ny497 := Aside0.mk hy497
                      clear hy497
                      by_cases c28 : t496.size + (strOfNums y497).size ≤ 9223372036854775807
                      · rw [if_pos c28] at H
                        have c28b0 := eq_true c28
                        have c28b1 : decide (t496.size + (strOfNums y497).size ≤ 9223372036854775807) = true := decide_eq_true c28
                        try have c28b2 : (9223372036854775807 < t496.size + (strOfNums y497).size) = False := eq_false (Nat.not_lt.2 c28)
                        by_cases c29 : (t496 ++ (strOfNums y497)).size + (a1 ++ (strOfNums y487)).size ≤ 9223372036854775807
                        · rw [if_pos c29] at H
                          have c29b0 := eq_true c29
                          have c29b1 : decide ((t496 ++ (strOfNums y497)).size + (a1 ++ (strOfNums y487)).size ≤ 9223372036854775807) = true := decide_eq_true c29
                          try have c29b2 : (9223372036854775807 < (t496 ++ (strOfNums y497)).size + (a1 ++ (strOfNums y487)).size) = False := eq_false (Nat.not_lt.2 c29)
                          try (have c29b3 := c29b2; simp only [ByteArray.size_append] at c29b3)
                          replace H := Option.bind_eq_some_iff.mp H
                          obtain ⟨t500, A300, H⟩ := H
                          replace H : (if x11_2.size + t500.size ≤ 9223372036854775807 then (spec_ExpandMessage.l0 k2 a2 (a1 ++ (strOfNums y487)) t494 t500 (x11_2 ++ t500) (wrap64 (x12_2 + 1))) else (none)) = some (r1, r2) := H
                          have A30 := Aside0.mk A300
                          clear A300
                          by_cases c31 : x11_2.size + t500.size ≤ 9223372036854775807
                          · rw [if_pos c31] at H
                            have c31b0 := eq_true c31
                            have c31b1 : decide (x11_2.size + t500.size ≤ 9223372036854775807) = true := decide_eq_true c31
                            try have c31b2 : (9223372036854775807 < x11_2.size + t500.size) = False := eq_false (Nat.not_lt.2 c31)
                            have H' := Aside0.mk H
                            clear H
                            try go_wp2
                            have n0_ := Aside0.mk (below_drew1 HB.out)
                            clear HB
                            have HB := n0_
                            clear n0_
                            refine start_ (n := 12) (S := fun w' => True) (ds := []) #[false, false, false, false, false, false, false, false, false, false, false, false] (by kernel_rfl) rfl rfl trivial (fun hHeld => ?_); refine with_tabW spec_ExpandMessage.tab10 spec_ExpandMessage.bits10 (fun HT_ HW_ => ?_)
                            generalize wr.drew = w32 at HB hHeld ⊢
                            refine pure_ (i := 0) (N := some 62) (v := ?_) (a' := ?_) #[true, false, false, false, false, false, false, false, false, false, false, false] rfl rfl (any_of HT_.out (by kernel_rfl)) (fun _ _ _ h => h) (Or.inl ⟨by rfl, ?_⟩) ?_ ?_
                            rotate_left
                            · intro w'
                              go_simp
                              with_reducible rfl
                            rotate_left
                            · simp only [Act.put, List.setIfInBounds_toArray, List.set_cons_zero, List.set_cons_succ, i64_w, i32_w]
                              rfl
                            refine pure_ (i := 1) (N := some 63) (v := ?_) (a' := ?_) #[true, true, false, false, false, false, false, false, false, false, false, false] rfl rfl (any_of HT_.out (by kernel_rfl)) (fun _ _ _ h => h) (Or.inl ⟨by rfl, ?_⟩) ?_ ?_
                            rotate_left
                            · intro w'
                              go_simp
                              with_reducible rfl
                            rotate_left
                            · simp only [Act.put, List.setIfInBounds_toArray, List.set_cons_zero, List.set_cons_succ, i64_w, i32_w]
                              rfl
                            refine pure_ (i := 3) (N := some 65) (v := ?_) (a' := ?_) #[true, true, false, true, false, false, false, false, false, false, false, false] rfl rfl (any_of HT_.out (by kernel_rfl)) (fun _ _ _ h => h) (Or.inl ⟨by rfl, ?_⟩) ?_ ?_
                            rotate_left
                            · intro w'
                              go_simp
                              with_reducible rfl
                            rotate_left
                            · simp only [Act.put, List.setIfInBounds_toArray, List.set_cons_zero, List.set_cons_succ, i64_w, i32_w]
                              rfl
                            refine pure_ (i := 4) (N := some 66) (v := ?_) (a' := ?_) #[true, true, false, true, true, false, false, false, false, false, false, false] rfl rfl (any_of HT_.out (by kernel_rfl)) (fun _ _ _ h => h) (Or.inl ⟨by rfl, ?_⟩) ?_ ?_
                            rotate_left
                            · intro w'
                              go_simp
                              with_reducible rfl
                            rotate_left
                            · simp only [Act.put, List.setIfInBounds_toArray, List.set_cons_zero, List.set_cons_succ, i64_w, i32_w]
                              rfl
                            refine pure_ (i := 8) (N := some 70) (v := ?_) (a' := ?_) #[true, true, false, true, true, false, false, false, true, false, false, false] rfl rfl (any_of HT_.out (by kernel_rfl)) (fun _ _ _ h => h) (Or.inl ⟨by rfl, ?_⟩) ?_ ?_
                            rotate_left
                            · intro w'
                              go_simp
                              with_reducible rfl
                            rotate_left
                            · simp only [Act.put, List.setIfInBounds_toArray, List.set_cons_zero, List.set_cons_succ, i64_w, i32_w]
                              rfl
                            refine join_ (σ := Value) 4 #[true, true, true, true, true, true, true, false, true, false, false, false] (fun s_ => [(64, .string t496), (67, s_), (68, .string (strOfNums y497))]) (fun s_ w' => (Kd.R (Kd.int .u8) 5 w' w.heap.size (fun _ => True) s_ y497) ∧ (Below w.heap.size w w')) ?_ ?_
                            rotate_left
                            · intro hCont
                              refine two_ (i := 2) (j := 5) (Ni := some 64) (Nj := some 67) #[true, true, true, true, true, false, false, false, true, false, false, false] #[true, true, false, true, true, true, false, false, true, false, false, false] rfl rfl rfl rfl (two_of HT_.out (by kernel_rfl)) (by decide) (by decide) (fun K hK => ?_) (fun K hK => ?_)
                              · skip
                                refine goes_ Tryd.func81 (by kernel_rfl) rfl #[.string t494, .string x10_2] (by rfl) rfl rfl (by (try simp only [List.map_toArray, List.map_cons, List.map_nil]); first | done | rfl | (simp only [List.length_drop, List.length_take]; rfl)) ?_
                                with_reducible refine (spec_l4Both.calls k2 t494 x10_2 t496 _ A27.out).mono ?_
                                rintro e w33 ⟨rfl, hb⟩
                                refine ⟨_, rfl, ?_⟩
                                have n0_ := Aside0.mk (below_step (by repeat (first | (with_reducible first | exact HB.out | apply below_alloc | apply pw_below_drewN | apply below_drew1) | exact HB.out)) hb)
                                clear HB
                                have HB := n0_
                                clear n0_
                                (try clear hb)
                                (try clear hb2)
                                (try clear hk)
                                (try clear hi)
                                refine hK.out _ _ trivial (fun hHeld => ?_)
                                clear hK K
                                refine norm_ (a' := ?_) ?_ ?_
                                rotate_left
                                · show Act.put _ (some 64) _ = _
                                  simp only [Act.put, List.setIfInBounds_toArray, List.set_cons_zero, List.set_cons_succ, i64_w, i32_w]
                                  rfl
                                refine one_ (i := 5) (N := some 67) #[true, true, true, true, true, true, false, false, true, false, false, false] rfl rfl (one_of HT_.out (by kernel_rfl)) (by decide) (fun K hK => ?_)
                                refine Kd.R_lit_step (Kd.int .u8) _ 5 ?hg (N := 67) ?hd (xs := ([(x12_2) % 256] : List Int)) (inner := [.int .u8 ((x12_2) % 256)]) (ok := fun _ => True) (okp := fun _ => True) ?hr ?hp (fun _ hk => hk) trivial (Below.refl _ _) (Nat.le_refl _) (by simp) ?_; (case hd => rfl); (case hg => rfl); (case hr => first | (go_simp; done) | (go_simp; rfl)); (case hp => exact (Reps.one (show Kd.M (Kd.int .u8) _ _ _ ((x12_2) % 256) [.int .u8 ((x12_2) % 256)] from rfl) (Reps.none _ _)))
                                intro v498 w34 ho35 hb hg_ hnew_
                                clear hg_ hnew_
                                (first | rw [← Ny497.out] at ho35 | (simp only [Int.reduceToNat] at ho35; rw [← Ny497.out] at ho35))
                                have n0_ := Aside0.mk (Kd.R_lower ho35 (below_size (by repeat (first | (with_reducible first | exact HB.out | apply below_alloc | apply pw_below_drewN | apply below_drew1) | exact HB.out))))
                                have n1_ := Aside0.mk (below_step (by repeat (first | (with_reducible first | exact HB.out | apply below_alloc | apply pw_below_drewN | apply below_drew1) | exact HB.out)) hb)
                                clear HB
                                have HO499 := n0_
                                have HB := n1_
                                clear n0_ n1_
                                clear hb ho35
                                refine hK.out _ _ trivial (fun hHeld => ?_)
                                clear hK K
                                refine norm_ (a' := ?_) ?_ ?_
                                rotate_left
                                · show Act.put _ (some 67) _ = _
                                  simp only [Act.put, List.setIfInBounds_toArray, List.set_cons_zero, List.set_cons_succ, i64_w, i32_w]
                                  rfl
                                refine one_ (i := 6) (N := some 68) #[true, true, true, true, true, true, true, false, true, false, false, false] rfl rfl (one_of HT_.out (by kernel_rfl)) (by decide) (fun K hK => ?_)
                                have hcv36 := own_string (P := Tryd.prog) Tryd.underlying40 Tryd.underlying5 Tryd.underlying9 (Kd.own_of_R HO499.out)
                                have hcv36q := fun nq : Nat => own_string (P := Tryd.prog) Tryd.underlying40 Tryd.underlying5 Tryd.underlying9 (pw_own_drewN (Kd.own_of_R HO499.out) nq)
                                refine value_ (w1 := ?_) (v := ?_) (by rfl) rfl ?_ ?_
                                rotate_left 2
                                · go_simp
                                  constructor
                                  · rfl
                                  · rfl
                                clear hcv36
                                refine hK.out _ _ trivial (fun hHeld => ?_)
                                clear hK K
                                refine norm_ (a' := ?_) ?_ ?_
                                rotate_left
                                · show Act.put _ (some 68) _ = _
                                  simp only [Act.put, List.setIfInBounds_toArray, List.set_cons_zero, List.set_cons_succ, i64_w, i32_w]
                                  rfl
                                exact norm_ (by simp only [putAll, Act.put, List.setIfInBounds_toArray, List.set_cons_zero, List.set_cons_succ]) (hCont (v498) _ ⟨(by (with_reducible repeat (first | apply Kd.R_alloc | apply Kd.R_drewN | apply Kd.R_drew)); exact HO499.out), (by repeat (first | (with_reducible first | exact HB.out | apply below_alloc | apply pw_below_drewN | apply below_drew1) | exact HB.out))⟩)
                              · skip
                                refine Kd.R_lit_step (Kd.int .u8) _ 5 ?hg (N := 67) ?hd (xs := ([(x12_2) % 256] : List Int)) (inner := [.int .u8 ((x12_2) % 256)]) (ok := fun _ => True) (okp := fun _ => True) ?hr ?hp (fun _ hk => hk) trivial (Below.refl _ _) (Nat.le_refl _) (by simp) ?_; (case hd => rfl); (case hg => rfl); (case hr => first | (go_simp; done) | (go_simp; rfl)); (case hp => exact (Reps.one (show Kd.M (Kd.int .u8) _ _ _ ((x12_2) % 256) [.int .u8 ((x12_2) % 256)] from rfl) (Reps.none _ _)))
                                intro v498 w33 ho34 hb hg_ hnew_
                                clear hg_ hnew_
                                (first | rw [← Ny497.out] at ho34 | (simp only [Int.reduceToNat] at ho34; rw [← Ny497.out] at ho34))
                                have n0_ := Aside0.mk (Kd.R_lower ho34 (below_size (by repeat (first | (with_reducible first | exact HB.out | apply below_alloc | apply pw_below_drewN | apply below_drew1) | exact HB.out))))
                                have n1_ := Aside0.mk (below_step (by repeat (first | (with_reducible first | exact HB.out | apply below_alloc | apply pw_below_drewN | apply below_drew1) | exact HB.out)) hb)
                                clear HB
                                have HO499 := n0_
                                have HB := n1_
                                clear n0_ n1_
                                clear hb ho34
                                refine hK.out _ _ trivial (fun hHeld => ?_)
                                clear hK K
                                refine norm_ (a' := ?_) ?_ ?_
                                rotate_left
                                · show Act.put _ (some 67) _ = _
                                  simp only [Act.put, List.setIfInBounds_toArray, List.set_cons_zero, List.set_cons_succ, i64_w, i32_w]
                                  rfl
                                refine two_ (i := 2) (j := 6) (Ni := some 64) (Nj := some 68) #[true, true, true, true, true, true, false, false, true, false, false, false] #[true, true, false, true, true, true, true, false, true, false, false, false] rfl rfl rfl rfl (two_of HT_.out (by kernel_rfl)) (by decide) (by decide) (fun K hK => ?_) (fun K hK => ?_)
                                · skip
                                  refine goes_ Tryd.func81 (by kernel_rfl) rfl #[.string t494, .string x10_2] (by rfl) rfl rfl (by (try simp only [List.map_toArray, List.map_cons, List.map_nil]); first | done | rfl | (simp only [List.length_drop, List.length_take]; rfl)) ?_
                                  with_reducible refine (spec_l4Both.calls k2 t494 x10_2 t496 _ A27.out).mono ?_
                                  rintro e w35 ⟨rfl, hb⟩
                                  refine ⟨_, rfl, ?_⟩
                                  have n0_ := Aside0.mk (Kd.R_below (by (with_reducible repeat (first | apply Kd.R_alloc | apply Kd.R_drewN | apply Kd.R_drew)); exact HO499.out) hb)
                                  have n1_ := Aside0.mk (below_step (by repeat (first | (with_reducible first | exact HB.out | apply below_alloc | apply pw_below_drewN | apply below_drew1) | exact HB.out)) hb)
                                  clear HO499
                                  clear HB
                                  have HO499 := n0_
                                  have HB := n1_
                                  clear n0_ n1_
                                  (try clear hb)
                                  (try clear hb2)
                                  (try clear hk)
                                  (try clear hi)
                                  refine hK.out _ _ trivial (fun hHeld => ?_)
                                  clear hK K
                                  refine norm_ (a' := ?_) ?_ ?_
                                  rotate_left
                                  · show Act.put _ (some 64) _ = _
                                    simp only [Act.put, List.setIfInBounds_toArray, List.set_cons_zero, List.set_cons_succ, i64_w, i32_w]
                                    rfl
                                  refine one_ (i := 6) (N := some 68) #[true, true, true, true, true, true, true, false, true, false, false, false] rfl rfl (one_of HT_.out (by kernel_rfl)) (by decide) (fun K hK => ?_)
                                  have hcv36 := own_string (P := Tryd.prog) Tryd.underlying40 Tryd.underlying5 Tryd.underlying9 (Kd.own_of_R HO499.out)
                                  have hcv36q := fun nq : Nat => own_string (P := Tryd.prog) Tryd.underlying40 Tryd.underlying5 Tryd.underlying9 (pw_own_drewN (Kd.own_of_R HO499.out) nq)
                                  refine value_ (w1 := ?_) (v := ?_) (by rfl) rfl ?_ ?_
                                  rotate_left 2
                                  · go_simp
                                    constructor
                                    · rfl
                                    · rfl
                                  clear hcv36
                                  refine hK.out _ _ trivial (fun hHeld => ?_)
                                  clear hK K
                                  refine norm_ (a' := ?_) ?_ ?_
                                  rotate_left
                                  · show Act.put _ (some 68) _ = _
                                    simp only [Act.put, List.setIfInBounds_toArray, List.set_cons_zero, List.set_cons_succ, i64_w, i32_w]
                                    rfl
                                  exact norm_ (by simp only [putAll, Act.put, List.setIfInBounds_toArray, List.set_cons_zero, List.set_cons_succ]) (hCont (v498) _ ⟨(by (with_reducible repeat (first | apply Kd.R_alloc | apply Kd.R_drewN | apply Kd.R_drew)); exact HO499.out), (by repeat (first | (with_reducible first | exact HB.out | apply below_alloc | apply pw_below_drewN | apply below_drew1) | exact HB.out))⟩)
                                · skip
                                  have hcv35 := own_string (P := Tryd.prog) Tryd.underlying40 Tryd.underlying5 Tryd.underlying9 (Kd.own_of_R HO499.out)
                                  have hcv35q := fun nq : Nat => own_string (P := Tryd.prog) Tryd.underlying40 Tryd.underlying5 Tryd.underlying9 (pw_own_drewN (Kd.own_of_R HO499.out) nq)
                                  refine value_ (w1 := ?_) (v := ?_) (by rfl) rfl ?_ ?_
                                  rotate_left 2
                                  · go_simp
                                    constructor
                                    · rfl
                                    · rfl
                                  clear hcv35
                                  refine hK.out _ _ trivial (fun hHeld => ?_)
                                  clear hK K
                                  refine norm_ (a' := ?_) ?_ ?_
                                  rotate_left
                                  · show Act.put _ (some 68) _ = _
                                    simp only [Act.put, List.setIfInBounds_toArray, List.set_cons_zero, List.set_cons_succ, i64_w, i32_w]
                                    rfl
                                  refine one_ (i := 2) (N := some 64) #[true, true, true, true, true, true, true, false, true, false, false, false] rfl rfl (one_of HT_.out (by kernel_rfl)) (by decide) (fun K hK => ?_)
                                  refine goes_ Tryd.func81 (by kernel_rfl) rfl #[.string t494, .string x10_2] (by rfl) rfl rfl (by (try simp only [List.map_toArray, List.map_cons, List.map_nil]); first | done | rfl | (simp only [List.length_drop, List.length_take]; rfl)) ?_
                                  with_reducible refine (spec_l4Both.calls k2 t494 x10_2 t496 _ A27.out).mono ?_
                                  rintro e w36 ⟨rfl, hb⟩
                                  refine ⟨_, rfl, ?_⟩
                                  have n0_ := Aside0.mk (Kd.R_below (by (with_reducible repeat (first | apply Kd.R_alloc | apply Kd.R_drewN | apply Kd.R_drew)); exact HO499.out) hb)
                                  have n1_ := Aside0.mk (below_step (by repeat (first | (with_reducible first | exact HB.out | apply below_alloc | apply pw_below_drewN | apply below_drew1) | exact HB.out)) hb)
                                  clear HO499
                                  clear HB
                                  have HO499 := n0_
                                  have HB := n1_
                                  clear n0_ n1_
                                  (try clear hb)
                                  (try clear hb2)
                                  (try clear hk)
                                  (try clear hi)
                                  refine hK.out _ _ trivial (fun hHeld => ?_)
                                  clear hK K
                                  refine norm_ (a' := ?_) ?_ ?_
                                  rotate_left
                                  · show Act.put _ (some 64) _ = _
                                    simp only [Act.put, List.setIfInBounds_toArray, List.set_cons_zero, List.set_cons_succ, i64_w, i32_w]
                                    rfl
                                  exact norm_ (by simp only [putAll, Act.put, List.setIfInBounds_toArray, List.set_cons_zero, List.set_cons_succ]) (hCont (v498) _ ⟨(by (with_reducible repeat (first | apply Kd.R_alloc | apply Kd.R_drewN | apply Kd.R_drew)); exact HO499.out), (by repeat (first | (with_reducible first | exact HB.out | apply below_alloc | apply pw_below_drewN | apply below_drew1) | exact HB.out))⟩)
                            rintro v498 w37 ⟨h0_, h1_⟩
                            have n0_ : Aside0 (Kd.R (Kd.int .u8) 5 w37 w.heap.size (fun _ => True) v498 y497) := ⟨h0_⟩
                            have n1_ : Aside0 (Below w.heap.size w w37) := ⟨h1_⟩
                            clear HB
                            clear h0_ h1_
                            have HO499 := n0_
                            have HB := n1_
                            clear n0_ n1_
                            have hHeld := trivial
                            refine norm_ (a' := ?_) ?_ ?_
                            rotate_left
                            · simp only [putAll, Act.put, List.setIfInBounds_toArray, List.set_cons_zero, List.set_cons_succ]
                              rfl
                            refine pure_ (i := 7) (N := some 69) (v := ?_) (a' := ?_) #[true, true, true, true, true, true, true, true, true, false, false, false] rfl rfl (any_of HT_.out (by kernel_rfl)) (fun _ _ _ h => h) (Or.inl ⟨by rfl, ?_⟩) ?_ ?_
                            rotate_left
                            · intro w'
                              go_simp
                              with_reducible rfl
                            rotate_left
                            · simp only [Act.put, List.setIfInBounds_toArray, List.set_cons_zero, List.set_cons_succ, i64_w, i32_w]
                              rfl
                            refine pure_ (i := 9) (N := some 71) (v := ?_) (a' := ?_) #[true, true, true, true, true, true, true, true, true, true, false, false] rfl rfl (any_of HT_.out (by kernel_rfl)) (fun _ _ _ h => h) (Or.inl ⟨by rfl, ?_⟩) ?_ ?_
                            rotate_left
                            · intro w'
                              go_simp
                              with_reducible rfl
                            rotate_left
                            · simp only [Act.put, List.setIfInBounds_toArray, List.set_cons_zero, List.set_cons_succ, i64_w, i32_w]
                              rfl
                            refine one_ (i := 10) (N := some 72) #[true, true, true, true, true, true, true, true, true, true, true, false] rfl rfl (one_of HT_.out (by kernel_rfl)) (by decide) (fun K hK => ?_)
                            refine goes_ Tryd.func22 (by kernel_rfl) rfl #[.string ((t496 ++ (strOfNums y497)) ++ (a1 ++ (strOfNums y487)))] (by rfl) rfl rfl (by (try simp only [List.map_toArray, List.map_cons, List.map_nil]); first | done | rfl | (simp only [List.length_drop, List.length_take]; rfl)) ?_
                            with_reducible refine (spec_Sha256.calls k2 ((t496 ++ (strOfNums y497)) ++ (a1 ++ (strOfNums y487))) t500 _ A30.out).mono ?_
                            rintro e w38 ⟨rfl, hb⟩
                            refine ⟨_, rfl, ?_⟩
                            have n0_ := Aside0.mk (Kd.R_below (by (with_reducible repeat (first | apply Kd.R_alloc | apply Kd.R_drewN | apply Kd.R_drew)); exact HO499.out) hb)
                            have n1_ := Aside0.mk (below_step (by repeat (first | (with_reducible first | exact HB.out | apply below_alloc | apply pw_below_drewN | apply below_drew1) | exact HB.out)) hb)
                            clear HO499
                            clear HB
                            have HO499 := n0_
                            have HB := n1_
                            clear n0_ n1_
                            (try clear hb)
                            (try clear hb2)
                            (try clear hk)
                            (try clear hi)
                            refine hK.out _ _ trivial (fun hHeld => ?_)
                            clear hK K
                            refine norm_ (a' := ?_) ?_ ?_
                            rotate_left
                            · show Act.put _ (some 72) _ = _
                              simp only [Act.put, List.setIfInBounds_toArray, List.set_cons_zero, List.set_cons_succ, i64_w, i32_w]
                              rfl
                            refine pure_ (i := 11) (N := some 10) (v := ?_) (a' := ?_) #[true, true, true, true, true, true, true, true, true, true, true, true] rfl rfl (any_of HT_.out (by kernel_rfl)) (fun _ _ _ h => h) (Or.inl ⟨by rfl, ?_⟩) ?_ ?_
                            rotate_left
                            · intro w'
                              go_simp
                              with_reducible rfl
                            rotate_left
                            · simp only [Act.put, List.setIfInBounds_toArray, List.set_cons_zero, List.set_cons_succ, i64_w, i32_w]
                              rfl
                            refine done_ (done_of HT_.out (by kernel_rfl)) ?_
                            try go_wp2
                            go_roundg k2
                            case measure => have := HJ3.out; have := HK2.out; omega
                            case rel => exact ⟨(t500), (x11_2 ++ t500), (wrap64 (x12_2 + 1)), (by first | rfl | (simp; done) | (simp [*]; done)), (by first | rfl | (simp; done) | (simp [*]; done)), (by first | rfl | (simp; done) | (simp [*]; done)), H', ⟨by have := HJ3.out; have := HK2.out; omega⟩, ⟨by repeat (first | (with_reducible first | exact HB.out | apply below_alloc | apply pw_below_drewN | apply below_drew1) | exact HB.out)⟩⟩
                          · rw [if_neg c31] at H
                            exact absurd H (by simp)
                        · rw [if_neg c29] at H
                          exact absurd H (by simp)
                      · rw [if_neg c28] at H
                        exact absurd H (by simp)
                    · rw [if_neg c26] at H
                      have c26b0 : decide ((x11_2.size : Int) < a2) = false := decide_eq_false c26
                      clear c26
                      by_cases c39 : 0 ≤ a2
                      · rw [if_pos c39] at H
                        have c39b0 := eq_true c39
                        have c39b1 : decide (0 ≤ a2) = true := decide_eq_true c39
                        clear c39
                        by_cases c40 : a2 ≤ (x11_2.size : Int)
                        · rw [if_pos c40] at H
                          have c40b0 := eq_true c40
                          have c40b1 : decide (a2 ≤ (x11_2.size : Int)) = true := decide_eq_true c40
                          clear c40
                          simp only [Option.some.injEq, Prod.mk.injEq] at H
                          obtain ⟨rfl, rfl⟩ := H
                          go_wp2
                          go_ret2
                          exact ⟨by first | rfl | (simp [errW_none, errW_some] <;> rfl) | (simp [*, errW_none, errW_some] <;> rfl), by repeat (first | (with_reducible first | exact HB.out | apply below_alloc | apply pw_below_drewN | apply below_drew1) | exact HB.out)⟩
                        · rw [if_neg c40] at H
                          exact absurd H (by simp)
                      · rw [if_neg c39] at H
                        exact absurd H (by simp)
              · rw [if_neg c14] at H
                exact absurd H (by simp)
            · rw [if_neg c13] at H
              exact absurd H (by simp)
          · rw [if_neg c12] at H
            exact absurd H (by simp)
        · rw [if_neg c10] at H
          exact absurd H (by simp)

end Go.Proofs.YtfonhiakelmhhaaDoor.P
end
section
namespace Go.Proofs.YtfonhiakelmhhaaDoor.P
open Go.RowKit Go.Proofs.YtfonhiakelmhhaaDoorW.PrintWords Go.Proofs.YtfonhiakelmhhaaDoorW.PrintLast Go.Proofs.YtfonhiakelmhhaaDoorW.PrintMore
set_option linter.unusedVariables false
set_option linter.unusedSimpArgs false
set_option maxHeartbeats 4000000 in
set_option maxRecDepth 100000 in
theorem impl_Hmac.calls (a0 a1 : ByteArray) (r : ByteArray) (w : World) (h : impl_Hmac.f a0 a1 = some r) (hG : Glob w) :
    Calls Tryd.prog 23 #[.string a0, .string a1] w fun e w' => e = .returned (.string r) ∧ Below w.heap.size w w' := by
  obtain ⟨⟨hz, hz1⟩, rfl⟩ := hmac_some a0 a1 r h
  clear h
  have HZ := Aside0.mk hz1
  have HG1 : Aside0 (Glob (w.alloc (.cells #[.string a1] 9 (0, 0)))) := ⟨hG.of_below ((Below.refl _ _).alloc (Nat.le_refl _) _)⟩
  have HB1 : Aside0 (Below w.heap.size w (w.alloc (.cells #[.string a1] 9 (0, 0)))) := ⟨(Below.refl _ _).alloc (Nat.le_refl _) _⟩
  have HP1 : Aside0 (StrsAt (w.alloc (.cells #[.string a1] 9 (0, 0))) w.heap.size 0 [a1]) := ⟨StrsAt.new w _ [a1]⟩
  clear hz1 hG
  go_enter Tryd.func23, Tryd.ntmps23
  go_wp2_with fail
  refine (macOf_calls a0 w.heap.size 1 0 [a1] _ HP1.out (Nat.le_refl _) (show (1 : Nat) ≤ 1000000 by omega) HG1.out hz (by have := HZ.out; simp only [allSize, List.map_cons, List.map_nil, List.sum_cons, List.sum_nil]; omega)).mono ?_
  rintro e w2 ⟨rfl, hb2⟩
  have HB2 : Aside0 (Below w.heap.size w w2) := ⟨below_step HB1.out hb2⟩
  clear hb2
  go_wp2_with fail
  go_ret
  exact ⟨by simp [allBytes], HB2.out⟩
end Go.Proofs.YtfonhiakelmhhaaDoor.P
end
section
namespace Go.Proofs.YtfonhiakelmhhaaDoor.P
open Go.RowKit Go.Proofs.YtfonhiakelmhhaaDoorW.PrintWords Go.Proofs.YtfonhiakelmhhaaDoorW.PrintLast Go.Proofs.YtfonhiakelmhhaaDoorW.PrintMore
set_option linter.unusedVariables false
set_option linter.unusedSimpArgs false

mutual
def laws_FnHash.j0 : Nat → List Int → List Int → Bool → Option (Bool)
  | 0, _, _, _ => none
  | k + 1, x0, x1, x31 => if x31 = true then (some true) else ((spec_DrawSha256.f k x0).bind fun t509 => ((spec_DrawHmac.f k x0).bind fun bt510 => ((impl_Sha256.f t509).bind fun t512 => ((spec_Sha256.f k t509).bind fun t513 => (if t512.toList = t513.toList then ((impl_Hmac.f bt510.1 bt510.2).bind fun t514 => ((spec_Hmac.f k bt510.1 bt510.2).bind fun t515 => (laws_FnHash.j1 k x0 x1 (t514.toList != t515.toList)))) else (laws_FnHash.j1 k x0 x1 true))))))
def laws_FnHash.j1 : Nat → List Int → List Int → Bool → Option (Bool)
  | 0, _, _, _ => none
  | k + 1, x0, x1, x52 => if x52 = true then (some false) else ((spec_DrawExpand.f k x0).bind fun bt516 => ((spec_Expand.f k bt516.1 bt516.2.1 bt516.2.2).bind fun bt519 => ((impl_Expand.f bt516.1 bt516.2.1 bt516.2.2).bind fun bt521 => (if bt521.1.toList = bt519.1.toList then (laws_FnHash.j2 k x0 x1 bt516.1 bt516.2.1 bt516.2.2 bt519.2 bt521.1 (bt521.2 != bt519.2)) else (laws_FnHash.j2 k x0 x1 bt516.1 bt516.2.1 bt516.2.2 bt519.2 bt521.1 true)))))
def laws_FnHash.j2 : Nat → List Int → List Int → ByteArray → ByteArray → Int → Bool → ByteArray → Bool → Option (Bool)
  | 0, _, _, _, _, _, _, _, _ => none
  | k + 1, x0, x1, x6, x8, x9, x11, x12, x80 => if x80 = true then (some false) else (if x11 = true then (laws_FnHash.j3 k x0 x1 x6 x8 x9 x12 (decide (x9 > 0))) else (laws_FnHash.j3 k x0 x1 x6 x8 x9 x12 false))
def laws_FnHash.j3 : Nat → List Int → List Int → ByteArray → ByteArray → Int → ByteArray → Bool → Option (Bool)
  | 0, _, _, _, _, _, _, _ => none
  | k + 1, x0, x1, x6, x8, x9, x12, x85 => if x85 = true then ((laws_wPick.f x1 0).bind fun t523 => ((laws_wPick.f x1 1).bind fun t524 => (if x9 = 0 then (none) else ((impl_Expand.f x6 x8 (Int.tmod (wrap64 ((wrap64 (t523 * 256)) + t524)) x9)).bind fun bt525 => (if bt525.2 = true then (if 0 ≤ (Int.tmod (wrap64 ((wrap64 (t523 * 256)) + t524)) x9) then (if (Int.tmod (wrap64 ((wrap64 (t523 * 256)) + t524)) x9) ≤ (x12.size : Int) then (if bt525.1.toList = (x12.extract 0 ((Int.tmod (wrap64 ((wrap64 (t523 * 256)) + t524)) x9) : Int).toNat).toList then (laws_FnHash.j4 k x0) else (some false)) else (none)) else (none)) else (some false)))))) else (laws_FnHash.j4 k x0)
def laws_FnHash.j4 : Nat → List Int → Option (Bool)
  | 0, _ => none
  | k + 1, x0 => (spec_DrawExpandMessage.f k x0).bind fun bt527 => ((spec_ExpandMessage.f k bt527.1 bt527.2.1 bt527.2.2).bind fun bt530 => ((impl_ExpandMessage.f bt527.1 bt527.2.1 bt527.2.2).bind fun bt532 => (if (bt532.2 != bt530.2) = true then (laws_FnHash.j5 k bt527.1 bt527.2.1 true) else (if bt530.2 = true then (laws_FnHash.j5 k bt527.1 bt527.2.1 ((bt532.1.size : Int) != bt527.2.2)) else (laws_FnHash.j5 k bt527.1 bt527.2.1 false)))))
def laws_FnHash.j5 : Nat → ByteArray → ByteArray → Bool → Option (Bool)
  | 0, _, _, _ => none
  | k + 1, x17, x18, x141 => if x141 = true then (some false) else ((impl_ExpandMessage.f x17 x18 24).bind fun bt534 => ((impl_HashToField.f k x17 x18 2305843009213693951 1).bind fun bt536 => (if (bt534.2 != bt536.2) = true then (some false) else (if bt534.2 = true then (if (bt536.1.length : Int) = 1 then (if 0 < (bt536.1.length : Int) then ((impl_Reduce.f k bt534.1 2305843009213693951).bind fun t541 => (some ((rd bt536.1 0) == t541))) else (none)) else (some false)) else (some true)))))
end
def laws_FnHash.f (k : Nat) (l0 : List Int) (l1 : List Int) : Option (Bool) := if (l0.length : Int) > 1048576 then (laws_FnHash.j0 k l0 l1 true) else (laws_FnHash.j0 k l0 l1 (decide ((l1.length : Int) > 1048576)))
set_option maxHeartbeats 8000000 in
set_option maxRecDepth 100000 in
theorem laws_FnHash.calls (k : Nat) (A0 : Option Addr) (c0 : Nat) (l0 : List Int) (A1 : Option Addr) (c1 : Nat) (l1 : List Int) (r : Bool) (w : World) (hr0 : Kd.C (Kd.int .u8) w A0 l0.length l0) (hc0 : l0.length ≤ c0) (hr1 : Kd.C (Kd.int .u8) w A1 l1.length l1) (hc1 : l1.length ≤ c1) (h : laws_FnHash.f k l0 l1 = some r) (hG : Glob w) :
    Calls Tryd.prog 5 #[.slice A0 l0.length c0, .slice A1 l1.length c1] w fun e w' => e = .returned (.bool r) ∧ Below w.heap.size w w' := by
  have HR0 := Aside0.mk hr0
  have HC0 := Aside0.mk hc0
  clear hr0 hc0
  have HR1 := Aside0.mk hr1
  have HC1 := Aside0.mk hc1
  clear hr1 hc1
  have HB := Aside0.mk (Below.refl w.heap.size w)
  have H : (if (l0.length : Int) > 1048576 then (laws_FnHash.j0 k l0 l1 true) else (laws_FnHash.j0 k l0 l1 (decide ((l1.length : Int) > 1048576)))) = some r := h
  clear h
  have HC3 := Aside0.mk H
  clear H
  go_enter Tryd.func5, Tryd.ntmps5
  go_upto_region 1 with (fail)
  repeat (go_quiet (fail); go_upto_region 1 with (fail))
  go_cut [31] (fun v31 wc => ∃ (kq : Nat) (x31_2 : Bool), v31 = .bool x31_2 ∧ Aside0 (laws_FnHash.j0 kq l0 l1 x31_2 = some r) ∧ Aside0 (kq ≤ k) ∧ Aside0 (Below w.heap.size w wc))
  case first =>
    have H := HC3.out
    clear HC3
    by_cases c4 : (l0.length : Int) > 1048576
    · rw [if_pos c4] at H
      have c4b0 : decide (1048576 < (l0.length : Int)) = true := decide_eq_true c4
      have c4b1 : decide (1048576 < l0.length) = true := decide_eq_true (by omega)
      clear c4
      (first | rw [c4b0] | (simp only [i64_w, i32_w]; rw [c4b0]) | skip)
      have H' := Aside0.mk H
      clear H
      go_wp2
      repeat (go_quiet (fail); try go_wp2)
      go_meet
      case rel => exact ⟨_, (true), (by first | rfl | (simp; done) | (simp [*]; done)), H', ⟨by first | omega | exact Nat.le_refl _⟩, ⟨by repeat (first | (with_reducible first | exact HB.out | apply below_alloc | apply pw_below_drewN | apply below_drew1) | exact HB.out)⟩⟩
    · rw [if_neg c4] at H
      have c4b0 : decide (1048576 < (l0.length : Int)) = false := decide_eq_false c4
      have c4b1 : decide (1048576 < l0.length) = false := decide_eq_false (by omega)
      clear c4
      (first | rw [c4b0] | (simp only [i64_w, i32_w]; rw [c4b0]) | skip)
      have H' := Aside0.mk H
      clear H
      go_wp2
      repeat (go_quiet (fail); try go_wp2)
      go_meet
      case rel => exact ⟨_, (decide ((l1.length : Int) > 1048576)), (by first | rfl | (simp; done) | (simp [*]; done)), H', ⟨by first | omega | exact Nat.le_refl _⟩, ⟨by repeat (first | (with_reducible first | exact HB.out | apply below_alloc | apply pw_below_drewN | apply below_drew1) | exact HB.out)⟩⟩
  case rest =>
    clear HC3
    try clear c1
    try clear p2
    try clear c4
    try clear c4b0
    try clear c4b1
    obtain ⟨kq, x31_2, rfl, HA, HJ2, HB⟩ := hcut
    cases kq with
    | zero => exact absurd HA.out (by simp [laws_FnHash.j0])
    | succ kj2 =>
      have H := HA.out
      clear HA
      simp only [laws_FnHash.j0] at H
      by_cases c5 : x31_2 = true
      · subst c5
        have H1 : (some true) = some r := by rw [if_pos rfl] at H; exact H
        clear H
        have H := H1
        clear H1
        obtain rfl := Option.some.inj H
        go_wp2
        repeat (go_quiet (fail); try go_wp2)
        go_ret
        exact ⟨by first | rfl | (simp [errW_none, errW_some] <;> rfl) | (simp [*, errW_none, errW_some] <;> rfl), by repeat (first | (with_reducible first | exact HB.out | apply below_alloc | apply pw_below_drewN | apply below_drew1) | exact HB.out)⟩
      · replace c5 := Bool.eq_false_iff.mpr c5
        subst c5
        have H1 : ((spec_DrawSha256.f kj2 l0).bind fun t509 => ((spec_DrawHmac.f kj2 l0).bind fun bt510 => ((impl_Sha256.f t509).bind fun t512 => ((spec_Sha256.f kj2 t509).bind fun t513 => (if t512.toList = t513.toList then ((impl_Hmac.f bt510.1 bt510.2).bind fun t514 => ((spec_Hmac.f kj2 bt510.1 bt510.2).bind fun t515 => (laws_FnHash.j1 kj2 l0 l1 (t514.toList != t515.toList)))) else (laws_FnHash.j1 kj2 l0 l1 true)))))) = some r := by rw [if_neg (show ¬ (false = true) by decide)] at H; exact H
        clear H
        have H := H1
        clear H1
        replace H := Option.bind_eq_some_iff.mp H
        obtain ⟨t509, A60, H⟩ := H
        replace H : ((spec_DrawHmac.f kj2 l0).bind fun bt510 => ((impl_Sha256.f t509).bind fun t512 => ((spec_Sha256.f kj2 t509).bind fun t513 => (if t512.toList = t513.toList then ((impl_Hmac.f bt510.1 bt510.2).bind fun t514 => ((spec_Hmac.f kj2 bt510.1 bt510.2).bind fun t515 => (laws_FnHash.j1 kj2 l0 l1 (t514.toList != t515.toList)))) else (laws_FnHash.j1 kj2 l0 l1 true))))) = some r := H
        have A6 := Aside0.mk A60
        clear A60
        replace H := Option.bind_eq_some_iff.mp H
        obtain ⟨⟨t510, t511⟩, A70, H⟩ := H
        replace H : ((impl_Sha256.f t509).bind fun t512 => ((spec_Sha256.f kj2 t509).bind fun t513 => (if t512.toList = t513.toList then ((impl_Hmac.f t510 t511).bind fun t514 => ((spec_Hmac.f kj2 t510 t511).bind fun t515 => (laws_FnHash.j1 kj2 l0 l1 (t514.toList != t515.toList)))) else (laws_FnHash.j1 kj2 l0 l1 true)))) = some r := H
        have A7 := Aside0.mk A70
        clear A70
        have HC8 := Aside0.mk H
        clear H
        go_upto_region 5 with (first | (go_at_call 19; (with_reducible refine (spec_DrawSha256.calls kj2 _ _ l0 t509 _ ?side1 ?side2 A6.out).mono ?_); (case side1 => repeat (first | exact (Kd.C_below HR0.out HB.out) | (with_reducible refine Kd.C_alloc ?_ _) | (with_reducible refine Kd.C_drewN ?_ _) | (with_reducible refine Kd.C_drew ?_))); (case side2 => exact HC0.out); rintro e w9 ⟨rfl, hb⟩; have n0_ := Aside0.mk (below_step (by repeat (first | (with_reducible first | exact HB.out | apply below_alloc | apply pw_below_drewN | apply below_drew1) | exact HB.out)) hb); clear HB; have HB := n0_; clear n0_; (try clear hb); (try clear hb2); (try clear hk); (try clear hi)) | (go_at_call 20; (with_reducible refine (spec_DrawHmac.calls kj2 _ _ l0 t510 t511 _ ?side1 ?side2 A7.out).mono ?_); (case side1 => repeat (first | exact (Kd.C_below HR0.out HB.out) | (with_reducible refine Kd.C_alloc ?_ _) | (with_reducible refine Kd.C_drewN ?_ _) | (with_reducible refine Kd.C_drew ?_))); (case side2 => exact HC0.out); rintro e w10 ⟨rfl, hb⟩; have n0_ := Aside0.mk (below_step (by repeat (first | (with_reducible first | exact HB.out | apply below_alloc | apply pw_below_drewN | apply below_drew1) | exact HB.out)) hb); clear HB; have HB := n0_; clear n0_; (try clear hb); (try clear hb2); (try clear hk); (try clear hi)))
        repeat (go_quiet (first | (go_at_call 19; (with_reducible refine (spec_DrawSha256.calls kj2 _ _ l0 t509 _ ?side1 ?side2 A6.out).mono ?_); (case side1 => repeat (first | exact (Kd.C_below HR0.out HB.out) | (with_reducible refine Kd.C_alloc ?_ _) | (with_reducible refine Kd.C_drewN ?_ _) | (with_reducible refine Kd.C_drew ?_))); (case side2 => exact HC0.out); rintro e w9 ⟨rfl, hb⟩; have n0_ := Aside0.mk (below_step (by repeat (first | (with_reducible first | exact HB.out | apply below_alloc | apply pw_below_drewN | apply below_drew1) | exact HB.out)) hb); clear HB; have HB := n0_; clear n0_; (try clear hb); (try clear hb2); (try clear hk); (try clear hi)) | (go_at_call 20; (with_reducible refine (spec_DrawHmac.calls kj2 _ _ l0 t510 t511 _ ?side1 ?side2 A7.out).mono ?_); (case side1 => repeat (first | exact (Kd.C_below HR0.out HB.out) | (with_reducible refine Kd.C_alloc ?_ _) | (with_reducible refine Kd.C_drewN ?_ _) | (with_reducible refine Kd.C_drew ?_))); (case side2 => exact HC0.out); rintro e w10 ⟨rfl, hb⟩; have n0_ := Aside0.mk (below_step (by repeat (first | (with_reducible first | exact HB.out | apply below_alloc | apply pw_below_drewN | apply below_drew1) | exact HB.out)) hb); clear HB; have HB := n0_; clear n0_; (try clear hb); (try clear hb2); (try clear hk); (try clear hi))); go_upto_region 5 with (first | (go_at_call 19; (with_reducible refine (spec_DrawSha256.calls kj2 _ _ l0 t509 _ ?side1 ?side2 A6.out).mono ?_); (case side1 => repeat (first | exact (Kd.C_below HR0.out HB.out) | (with_reducible refine Kd.C_alloc ?_ _) | (with_reducible refine Kd.C_drewN ?_ _) | (with_reducible refine Kd.C_drew ?_))); (case side2 => exact HC0.out); rintro e w9 ⟨rfl, hb⟩; have n0_ := Aside0.mk (below_step (by repeat (first | (with_reducible first | exact HB.out | apply below_alloc | apply pw_below_drewN | apply below_drew1) | exact HB.out)) hb); clear HB; have HB := n0_; clear n0_; (try clear hb); (try clear hb2); (try clear hk); (try clear hi)) | (go_at_call 20; (with_reducible refine (spec_DrawHmac.calls kj2 _ _ l0 t510 t511 _ ?side1 ?side2 A7.out).mono ?_); (case side1 => repeat (first | exact (Kd.C_below HR0.out HB.out) | (with_reducible refine Kd.C_alloc ?_ _) | (with_reducible refine Kd.C_drewN ?_ _) | (with_reducible refine Kd.C_drew ?_))); (case side2 => exact HC0.out); rintro e w10 ⟨rfl, hb⟩; have n0_ := Aside0.mk (below_step (by repeat (first | (with_reducible first | exact HB.out | apply below_alloc | apply pw_below_drewN | apply below_drew1) | exact HB.out)) hb); clear HB; have HB := n0_; clear n0_; (try clear hb); (try clear hb2); (try clear hk); (try clear hi))))
        (try simp only [Act.put, List.setIfInBounds_toArray, List.set_cons_zero, List.set_cons_succ])
        go_cut [52] (fun v52 wc => ∃ (kq : Nat) (x52_7 : Bool), v52 = .bool x52_7 ∧ Aside0 (laws_FnHash.j1 kq l0 l1 x52_7 = some r) ∧ Aside0 (kq ≤ kj2) ∧ Aside0 (Below w.heap.size w wc))
        case first =>
          have H := HC8.out
          clear HC8
          replace H := Option.bind_eq_some_iff.mp H
          obtain ⟨t512, A110, H⟩ := H
          replace H : ((spec_Sha256.f kj2 t509).bind fun t513 => (if t512.toList = t513.toList then ((impl_Hmac.f t510 t511).bind fun t514 => ((spec_Hmac.f kj2 t510 t511).bind fun t515 => (laws_FnHash.j1 kj2 l0 l1 (t514.toList != t515.toList)))) else (laws_FnHash.j1 kj2 l0 l1 true))) = some r := H
          have A11 := Aside0.mk A110
          clear A110
          replace H := Option.bind_eq_some_iff.mp H
          obtain ⟨t513, A120, H⟩ := H
          replace H : (if t512.toList = t513.toList then ((impl_Hmac.f t510 t511).bind fun t514 => ((spec_Hmac.f kj2 t510 t511).bind fun t515 => (laws_FnHash.j1 kj2 l0 l1 (t514.toList != t515.toList)))) else (laws_FnHash.j1 kj2 l0 l1 true)) = some r := H
          have A12 := Aside0.mk A120
          clear A120
          by_cases c13 : t512.toList = t513.toList
          · rw [if_pos c13] at H
            have c13b0 : (t512.toList == t513.toList) = true := beq_iff_eq.mpr c13
            have c13b1 : (t512.toList != t513.toList) = false := bne_eq_false_iff_eq.mpr c13
            clear c13
            (first | rw [c13b0] | (simp only [i64_w, i32_w]; rw [c13b0]) | skip)
            replace H := Option.bind_eq_some_iff.mp H
            obtain ⟨t514, A140, H⟩ := H
            replace H : ((spec_Hmac.f kj2 t510 t511).bind fun t515 => (laws_FnHash.j1 kj2 l0 l1 (t514.toList != t515.toList))) = some r := H
            have A14 := Aside0.mk A140
            clear A140
            replace H := Option.bind_eq_some_iff.mp H
            obtain ⟨t515, A150, H⟩ := H
            replace H : (laws_FnHash.j1 kj2 l0 l1 (t514.toList != t515.toList)) = some r := H
            have A15 := Aside0.mk A150
            clear A150
            have H' := Aside0.mk H
            clear H
            go_wp2_with (first | (go_at_call 21; (with_reducible refine (impl_Sha256.calls t509 t512 _ A11.out ?_).mono ?_); (exact Glob.of_below hG (by repeat (first | (with_reducible first | exact HB.out | apply below_alloc | apply pw_below_drewN | apply below_drew1) | exact HB.out))); rintro e w16 ⟨rfl, hb⟩; have n0_ := Aside0.mk (below_step (by repeat (first | (with_reducible first | exact HB.out | apply below_alloc | apply pw_below_drewN | apply below_drew1) | exact HB.out)) hb); clear HB; have HB := n0_; clear n0_; (try clear hb); (try clear hb2); (try clear hk); (try clear hi)) | (go_at_call 22; (with_reducible refine (spec_Sha256.calls kj2 t509 t513 _ A12.out).mono ?_); rintro e w17 ⟨rfl, hb⟩; have n0_ := Aside0.mk (below_step (by repeat (first | (with_reducible first | exact HB.out | apply below_alloc | apply pw_below_drewN | apply below_drew1) | exact HB.out)) hb); clear HB; have HB := n0_; clear n0_; (try clear hb); (try clear hb2); (try clear hk); (try clear hi)) | (go_at_call 23; (with_reducible refine (impl_Hmac.calls t510 t511 t514 _ A14.out ?_).mono ?_); (exact Glob.of_below hG (by repeat (first | (with_reducible first | exact HB.out | apply below_alloc | apply pw_below_drewN | apply below_drew1) | exact HB.out))); rintro e w18 ⟨rfl, hb⟩; have n0_ := Aside0.mk (below_step (by repeat (first | (with_reducible first | exact HB.out | apply below_alloc | apply pw_below_drewN | apply below_drew1) | exact HB.out)) hb); clear HB; have HB := n0_; clear n0_; (try clear hb); (try clear hb2); (try clear hk); (try clear hi)) | (go_at_call 24; (with_reducible refine (spec_Hmac.calls kj2 t510 t511 t515 _ A15.out).mono ?_); rintro e w19 ⟨rfl, hb⟩; have n0_ := Aside0.mk (below_step (by repeat (first | (with_reducible first | exact HB.out | apply below_alloc | apply pw_below_drewN | apply below_drew1) | exact HB.out)) hb); clear HB; have HB := n0_; clear n0_; (try clear hb); (try clear hb2); (try clear hk); (try clear hi)))
            repeat (go_quiet (first | (go_at_call 21; (with_reducible refine (impl_Sha256.calls t509 t512 _ A11.out ?_).mono ?_); (exact Glob.of_below hG (by repeat (first | (with_reducible first | exact HB.out | apply below_alloc | apply pw_below_drewN | apply below_drew1) | exact HB.out))); rintro e w16 ⟨rfl, hb⟩; have n0_ := Aside0.mk (below_step (by repeat (first | (with_reducible first | exact HB.out | apply below_alloc | apply pw_below_drewN | apply below_drew1) | exact HB.out)) hb); clear HB; have HB := n0_; clear n0_; (try clear hb); (try clear hb2); (try clear hk); (try clear hi)) | (go_at_call 22; (with_reducible refine (spec_Sha256.calls kj2 t509 t513 _ A12.out).mono ?_); rintro e w17 ⟨rfl, hb⟩; have n0_ := Aside0.mk (below_step (by repeat (first | (with_reducible first | exact HB.out | apply below_alloc | apply pw_below_drewN | apply below_drew1) | exact HB.out)) hb); clear HB; have HB := n0_; clear n0_; (try clear hb); (try clear hb2); (try clear hk); (try clear hi)) | (go_at_call 23; (with_reducible refine (impl_Hmac.calls t510 t511 t514 _ A14.out ?_).mono ?_); (exact Glob.of_below hG (by repeat (first | (with_reducible first | exact HB.out | apply below_alloc | apply pw_below_drewN | apply below_drew1) | exact HB.out))); rintro e w18 ⟨rfl, hb⟩; have n0_ := Aside0.mk (below_step (by repeat (first | (with_reducible first | exact HB.out | apply below_alloc | apply pw_below_drewN | apply below_drew1) | exact HB.out)) hb); clear HB; have HB := n0_; clear n0_; (try clear hb); (try clear hb2); (try clear hk); (try clear hi)) | (go_at_call 24; (with_reducible refine (spec_Hmac.calls kj2 t510 t511 t515 _ A15.out).mono ?_); rintro e w19 ⟨rfl, hb⟩; have n0_ := Aside0.mk (below_step (by repeat (first | (with_reducible first | exact HB.out | apply below_alloc | apply pw_below_drewN | apply below_drew1) | exact HB.out)) hb); clear HB; have HB := n0_; clear n0_; (try clear hb); (try clear hb2); (try clear hk); (try clear hi))); try go_wp2_with (first | (go_at_call 21; (with_reducible refine (impl_Sha256.calls t509 t512 _ A11.out ?_).mono ?_); (exact Glob.of_below hG (by repeat (first | (with_reducible first | exact HB.out | apply below_alloc | apply pw_below_drewN | apply below_drew1) | exact HB.out))); rintro e w16 ⟨rfl, hb⟩; have n0_ := Aside0.mk (below_step (by repeat (first | (with_reducible first | exact HB.out | apply below_alloc | apply pw_below_drewN | apply below_drew1) | exact HB.out)) hb); clear HB; have HB := n0_; clear n0_; (try clear hb); (try clear hb2); (try clear hk); (try clear hi)) | (go_at_call 22; (with_reducible refine (spec_Sha256.calls kj2 t509 t513 _ A12.out).mono ?_); rintro e w17 ⟨rfl, hb⟩; have n0_ := Aside0.mk (below_step (by repeat (first | (with_reducible first | exact HB.out | apply below_alloc | apply pw_below_drewN | apply below_drew1) | exact HB.out)) hb); clear HB; have HB := n0_; clear n0_; (try clear hb); (try clear hb2); (try clear hk); (try clear hi)) | (go_at_call 23; (with_reducible refine (impl_Hmac.calls t510 t511 t514 _ A14.out ?_).mono ?_); (exact Glob.of_below hG (by repeat (first | (with_reducible first | exact HB.out | apply below_alloc | apply pw_below_drewN | apply below_drew1) | exact HB.out))); rintro e w18 ⟨rfl, hb⟩; have n0_ := Aside0.mk (below_step (by repeat (first | (with_reducible first | exact HB.out | apply below_alloc | apply pw_below_drewN | apply below_drew1) | exact HB.out)) hb); clear HB; have HB := n0_; clear n0_; (try clear hb); (try clear hb2); (try clear hk); (try clear hi)) | (go_at_call 24; (with_reducible refine (spec_Hmac.calls kj2 t510 t511 t515 _ A15.out).mono ?_); rintro e w19 ⟨rfl, hb⟩; have n0_ := Aside0.mk (below_step (by repeat (first | (with_reducible first | exact HB.out | apply below_alloc | apply pw_below_drewN | apply below_drew1) | exact HB.out)) hb); clear HB; have HB := n0_; clear n0_; (try clear hb); (try clear hb2); (try clear hk); (try clear hi))))
            go_meet
            case rel => exact ⟨_, ((t514.toList != t515.toList)), (by first | rfl | (simp; done) | (simp [*]; done)), H', ⟨by have := HJ2.out; first | omega | exact Nat.le_refl _⟩, ⟨by repeat (first | (with_reducible first | exact HB.out | apply below_alloc | apply pw_below_drewN | apply below_drew1) | exact HB.out)⟩⟩
          · rw [if_neg c13] at H
            have c13b0 : (t512.toList == t513.toList) = false := beq_eq_false_iff_ne.mpr c13
            have c13b1 : (t512.toList != t513.toList) = true := bne_iff_ne.mpr c13
            (first | rw [c13b0] | (simp only [i64_w, i32_w]; rw [c13b0]) | skip)
            have H' := Aside0.mk H
            clear H
            go_wp2_with (first | (go_at_call 21; (with_reducible refine (impl_Sha256.calls t509 t512 _ A11.out ?_).mono ?_); (exact Glob.of_below hG (by repeat (first | (with_reducible first | exact HB.out | apply below_alloc | apply pw_below_drewN | apply below_drew1) | exact HB.out))); rintro e w20 ⟨rfl, hb⟩; have n0_ := Aside0.mk (below_step (by repeat (first | (with_reducible first | exact HB.out | apply below_alloc | apply pw_below_drewN | apply below_drew1) | exact HB.out)) hb); clear HB; have HB := n0_; clear n0_; (try clear hb); (try clear hb2); (try clear hk); (try clear hi)) | (go_at_call 22; (with_reducible refine (spec_Sha256.calls kj2 t509 t513 _ A12.out).mono ?_); rintro e w21 ⟨rfl, hb⟩; have n0_ := Aside0.mk (below_step (by repeat (first | (with_reducible first | exact HB.out | apply below_alloc | apply pw_below_drewN | apply below_drew1) | exact HB.out)) hb); clear HB; have HB := n0_; clear n0_; (try clear hb); (try clear hb2); (try clear hk); (try clear hi)))
            repeat (go_quiet (first | (go_at_call 21; (with_reducible refine (impl_Sha256.calls t509 t512 _ A11.out ?_).mono ?_); (exact Glob.of_below hG (by repeat (first | (with_reducible first | exact HB.out | apply below_alloc | apply pw_below_drewN | apply below_drew1) | exact HB.out))); rintro e w20 ⟨rfl, hb⟩; have n0_ := Aside0.mk (below_step (by repeat (first | (with_reducible first | exact HB.out | apply below_alloc | apply pw_below_drewN | apply below_drew1) | exact HB.out)) hb); clear HB; have HB := n0_; clear n0_; (try clear hb); (try clear hb2); (try clear hk); (try clear hi)) | (go_at_call 22; (with_reducible refine (spec_Sha256.calls kj2 t509 t513 _ A12.out).mono ?_); rintro e w21 ⟨rfl, hb⟩; have n0_ := Aside0.mk (below_step (by repeat (first | (with_reducible first | exact HB.out | apply below_alloc | apply pw_below_drewN | apply below_drew1) | exact HB.out)) hb); clear HB; have HB := n0_; clear n0_; (try clear hb); (try clear hb2); (try clear hk); (try clear hi))); try go_wp2_with (first | (go_at_call 21; (with_reducible refine (impl_Sha256.calls t509 t512 _ A11.out ?_).mono ?_); (exact Glob.of_below hG (by repeat (first | (with_reducible first | exact HB.out | apply below_alloc | apply pw_below_drewN | apply below_drew1) | exact HB.out))); rintro e w20 ⟨rfl, hb⟩; have n0_ := Aside0.mk (below_step (by repeat (first | (with_reducible first | exact HB.out | apply below_alloc | apply pw_below_drewN | apply below_drew1) | exact HB.out)) hb); clear HB; have HB := n0_; clear n0_; (try clear hb); (try clear hb2); (try clear hk); (try clear hi)) | (go_at_call 22; (with_reducible refine (spec_Sha256.calls kj2 t509 t513 _ A12.out).mono ?_); rintro e w21 ⟨rfl, hb⟩; have n0_ := Aside0.mk (below_step (by repeat (first | (with_reducible first | exact HB.out | apply below_alloc | apply pw_below_drewN | apply below_drew1) | exact HB.out)) hb); clear HB; have HB := n0_; clear n0_; (try clear hb); (try clear hb2); (try clear hk); (try clear hi))))
            go_meet
            case rel => exact ⟨_, (true), (by first | rfl | (simp; done) | (simp [*]; done)), H', ⟨by have := HJ2.out; first | omega | exact Nat.le_refl _⟩, ⟨by repeat (first | (with_reducible first | exact HB.out | apply below_alloc | apply pw_below_drewN | apply below_drew1) | exact HB.out)⟩⟩
        case rest =>
          clear HC8
          try clear c1
          try clear p2
          try clear c4
          try clear c4b0
          try clear c4b1
          try clear c5
          try clear c13
          try clear c13b0
          try clear c13b1
          try clear p2
          obtain ⟨kq, x52_7, rfl, HA, HJ7, HB⟩ := hcut
          cases kq with
          | zero => exact absurd HA.out (by simp [laws_FnHash.j1])
          | succ kj7 =>
            have H := HA.out
            clear HA
            simp only [laws_FnHash.j1] at H
            by_cases c22 : x52_7 = true
            · subst c22
              have H1 : (some false) = some r := by rw [if_pos rfl] at H; exact H
              clear H
              have H := H1
              clear H1
              obtain rfl := Option.some.inj H
              go_wp2
              repeat (go_quiet (fail); try go_wp2)
              go_ret
              exact ⟨by first | rfl | (simp [errW_none, errW_some] <;> rfl) | (simp [*, errW_none, errW_some] <;> rfl), by repeat (first | (with_reducible first | exact HB.out | apply below_alloc | apply pw_below_drewN | apply below_drew1) | exact HB.out)⟩
            · replace c22 := Bool.eq_false_iff.mpr c22
              subst c22
              have H1 : ((spec_DrawExpand.f kj7 l0).bind fun bt516 => ((spec_Expand.f kj7 bt516.1 bt516.2.1 bt516.2.2).bind fun bt519 => ((impl_Expand.f bt516.1 bt516.2.1 bt516.2.2).bind fun bt521 => (if bt521.1.toList = bt519.1.toList then (laws_FnHash.j2 kj7 l0 l1 bt516.1 bt516.2.1 bt516.2.2 bt519.2 bt521.1 (bt521.2 != bt519.2)) else (laws_FnHash.j2 kj7 l0 l1 bt516.1 bt516.2.1 bt516.2.2 bt519.2 bt521.1 true))))) = some r := by rw [if_neg (show ¬ (false = true) by decide)] at H; exact H
              clear H
              have H := H1
              clear H1
              replace H := Option.bind_eq_some_iff.mp H
              obtain ⟨⟨t516, t517, t518⟩, A230, H⟩ := H
              replace H : ((spec_Expand.f kj7 t516 t517 t518).bind fun bt519 => ((impl_Expand.f t516 t517 t518).bind fun bt521 => (if bt521.1.toList = bt519.1.toList then (laws_FnHash.j2 kj7 l0 l1 t516 t517 t518 bt519.2 bt521.1 (bt521.2 != bt519.2)) else (laws_FnHash.j2 kj7 l0 l1 t516 t517 t518 bt519.2 bt521.1 true)))) = some r := H
              have A23 := Aside0.mk A230
              clear A230
              replace H := Option.bind_eq_some_iff.mp H
              obtain ⟨⟨t519, t520⟩, A240, H⟩ := H
              replace H : ((impl_Expand.f t516 t517 t518).bind fun bt521 => (if bt521.1.toList = t519.toList then (laws_FnHash.j2 kj7 l0 l1 t516 t517 t518 t520 bt521.1 (bt521.2 != t520)) else (laws_FnHash.j2 kj7 l0 l1 t516 t517 t518 t520 bt521.1 true))) = some r := H
              have A24 := Aside0.mk A240
              clear A240
              replace H := Option.bind_eq_some_iff.mp H
              obtain ⟨⟨t521, t522⟩, A250, H⟩ := H
              replace H : (if t521.toList = t519.toList then (laws_FnHash.j2 kj7 l0 l1 t516 t517 t518 t520 t521 (t522 != t520)) else (laws_FnHash.j2 kj7 l0 l1 t516 t517 t518 t520 t521 true)) = some r := H
              have A25 := Aside0.mk A250
              clear A250
              have HC26 := Aside0.mk H
              clear H
              go_upto_region 10 with (first | (go_at_call 25; (with_reducible refine (spec_DrawExpand.calls kj7 _ _ l0 t516 t517 t518 _ ?side1 ?side2 A23.out).mono ?_); (case side1 => repeat (first | exact (Kd.C_below HR0.out HB.out) | (with_reducible refine Kd.C_alloc ?_ _) | (with_reducible refine Kd.C_drewN ?_ _) | (with_reducible refine Kd.C_drew ?_))); (case side2 => exact HC0.out); rintro e w27 ⟨rfl, hb⟩; have n0_ := Aside0.mk (below_step (by repeat (first | (with_reducible first | exact HB.out | apply below_alloc | apply pw_below_drewN | apply below_drew1) | exact HB.out)) hb); clear HB; have HB := n0_; clear n0_; (try clear hb); (try clear hb2); (try clear hk); (try clear hi)) | (go_at_call 26; (with_reducible refine (spec_Expand.calls kj7 t516 t517 t518 t519 t520 _ A24.out).mono ?_); rintro e w28 ⟨rfl, hb⟩; have n0_ := Aside0.mk (below_step (by repeat (first | (with_reducible first | exact HB.out | apply below_alloc | apply pw_below_drewN | apply below_drew1) | exact HB.out)) hb); clear HB; have HB := n0_; clear n0_; (try clear hb); (try clear hb2); (try clear hk); (try clear hi)) | (go_at_call 27; (with_reducible refine (impl_Expand.calls t516 t517 t518 t521 t522 _ A25.out ?_).mono ?_); (exact Glob.of_below hG (by repeat (first | (with_reducible first | exact HB.out | apply below_alloc | apply pw_below_drewN | apply below_drew1) | exact HB.out))); rintro e w29 ⟨rfl, hb⟩; have n0_ := Aside0.mk (below_step (by repeat (first | (with_reducible first | exact HB.out | apply below_alloc | apply pw_below_drewN | apply below_drew1) | exact HB.out)) hb); clear HB; have HB := n0_; clear n0_; (try clear hb); (try clear hb2); (try clear hk); (try clear hi)))
              repeat (go_quiet (first | (go_at_call 25; (with_reducible refine (spec_DrawExpand.calls kj7 _ _ l0 t516 t517 t518 _ ?side1 ?side2 A23.out).mono ?_); (case side1 => repeat (first | exact (Kd.C_below HR0.out HB.out) | (with_reducible refine Kd.C_alloc ?_ _) | (with_reducible refine Kd.C_drewN ?_ _) | (with_reducible refine Kd.C_drew ?_))); (case side2 => exact HC0.out); rintro e w27 ⟨rfl, hb⟩; have n0_ := Aside0.mk (below_step (by repeat (first | (with_reducible first | exact HB.out | apply below_alloc | apply pw_below_drewN | apply below_drew1) | exact HB.out)) hb); clear HB; have HB := n0_; clear n0_; (try clear hb); (try clear hb2); (try clear hk); (try clear hi)) | (go_at_call 26; (with_reducible refine (spec_Expand.calls kj7 t516 t517 t518 t519 t520 _ A24.out).mono ?_); rintro e w28 ⟨rfl, hb⟩; have n0_ := Aside0.mk (below_step (by repeat (first | (with_reducible first | exact HB.out | apply below_alloc | apply pw_below_drewN | apply below_drew1) | exact HB.out)) hb); clear HB; have HB := n0_; clear n0_; (try clear hb); (try clear hb2); (try clear hk); (try clear hi)) | (go_at_call 27; (with_reducible refine (impl_Expand.calls t516 t517 t518 t521 t522 _ A25.out ?_).mono ?_); (exact Glob.of_below hG (by repeat (first | (with_reducible first | exact HB.out | apply below_alloc | apply pw_below_drewN | apply below_drew1) | exact HB.out))); rintro e w29 ⟨rfl, hb⟩; have n0_ := Aside0.mk (below_step (by repeat (first | (with_reducible first | exact HB.out | apply below_alloc | apply pw_below_drewN | apply below_drew1) | exact HB.out)) hb); clear HB; have HB := n0_; clear n0_; (try clear hb); (try clear hb2); (try clear hk); (try clear hi))); go_upto_region 10 with (first | (go_at_call 25; (with_reducible refine (spec_DrawExpand.calls kj7 _ _ l0 t516 t517 t518 _ ?side1 ?side2 A23.out).mono ?_); (case side1 => repeat (first | exact (Kd.C_below HR0.out HB.out) | (with_reducible refine Kd.C_alloc ?_ _) | (with_reducible refine Kd.C_drewN ?_ _) | (with_reducible refine Kd.C_drew ?_))); (case side2 => exact HC0.out); rintro e w27 ⟨rfl, hb⟩; have n0_ := Aside0.mk (below_step (by repeat (first | (with_reducible first | exact HB.out | apply below_alloc | apply pw_below_drewN | apply below_drew1) | exact HB.out)) hb); clear HB; have HB := n0_; clear n0_; (try clear hb); (try clear hb2); (try clear hk); (try clear hi)) | (go_at_call 26; (with_reducible refine (spec_Expand.calls kj7 t516 t517 t518 t519 t520 _ A24.out).mono ?_); rintro e w28 ⟨rfl, hb⟩; have n0_ := Aside0.mk (below_step (by repeat (first | (with_reducible first | exact HB.out | apply below_alloc | apply pw_below_drewN | apply below_drew1) | exact HB.out)) hb); clear HB; have HB := n0_; clear n0_; (try clear hb); (try clear hb2); (try clear hk); (try clear hi)) | (go_at_call 27; (with_reducible refine (impl_Expand.calls t516 t517 t518 t521 t522 _ A25.out ?_).mono ?_); (exact Glob.of_below hG (by repeat (first | (with_reducible first | exact HB.out | apply below_alloc | apply pw_below_drewN | apply below_drew1) | exact HB.out))); rintro e w29 ⟨rfl, hb⟩; have n0_ := Aside0.mk (below_step (by repeat (first | (with_reducible first | exact HB.out | apply below_alloc | apply pw_below_drewN | apply below_drew1) | exact HB.out)) hb); clear HB; have HB := n0_; clear n0_; (try clear hb); (try clear hb2); (try clear hk); (try clear hi))))
              (try simp only [Act.put, List.setIfInBounds_toArray, List.set_cons_zero, List.set_cons_succ])
              go_cut [80] (fun v80 wc => ∃ (kq : Nat) (x80_25 : Bool), v80 = .bool x80_25 ∧ Aside0 (laws_FnHash.j2 kq l0 l1 t516 t517 t518 t520 t521 x80_25 = some r) ∧ Aside0 (kq ≤ kj7) ∧ Aside0 (Below w.heap.size w wc))
              case first =>
                have H := HC26.out
                clear HC26
                by_cases c30 : t521.toList = t519.toList
                · rw [if_pos c30] at H
                  have c30b0 : (t521.toList == t519.toList) = true := beq_iff_eq.mpr c30
                  have c30b1 : (t521.toList != t519.toList) = false := bne_eq_false_iff_eq.mpr c30
                  clear c30
                  (first | rw [c30b0] | (simp only [i64_w, i32_w]; rw [c30b0]) | skip)
                  have H' := Aside0.mk H
                  clear H
                  go_wp2
                  repeat (go_quiet (fail); try go_wp2)
                  go_meet
                  case rel => exact ⟨_, ((t522 != t520)), (by first | rfl | (simp; done) | (simp [*]; done)), H', ⟨by have := HJ2.out; have := HJ7.out; first | omega | exact Nat.le_refl _⟩, ⟨by repeat (first | (with_reducible first | exact HB.out | apply below_alloc | apply pw_below_drewN | apply below_drew1) | exact HB.out)⟩⟩
                · rw [if_neg c30] at H
                  have c30b0 : (t521.toList == t519.toList) = false := beq_eq_false_iff_ne.mpr c30
                  have c30b1 : (t521.toList != t519.toList) = true := bne_iff_ne.mpr c30
                  (first | rw [c30b0] | (simp only [i64_w, i32_w]; rw [c30b0]) | skip)
                  have H' := Aside0.mk H
                  clear H
                  go_wp2
                  repeat (go_quiet (fail); try go_wp2)
                  go_meet
                  case rel => exact ⟨_, (true), (by first | rfl | (simp; done) | (simp [*]; done)), H', ⟨by have := HJ2.out; have := HJ7.out; first | omega | exact Nat.le_refl _⟩, ⟨by repeat (first | (with_reducible first | exact HB.out | apply below_alloc | apply pw_below_drewN | apply below_drew1) | exact HB.out)⟩⟩
              case rest =>
                clear HC26
                try clear c1
                try clear c2
                try clear p2
                try clear c3
                try clear c4
                try clear c4b0
                try clear c4b1
                try clear c5
                try clear c13
                try clear c13b0
                try clear c13b1
                try clear c22
                try clear c30
                try clear c30b0
                try clear c30b1
                try clear p2
                obtain ⟨kq, x80_25, rfl, HA, HJ25, HB⟩ := hcut
                cases kq with
                | zero => exact absurd HA.out (by simp [laws_FnHash.j2])
                | succ kj25 =>
                  have H := HA.out
                  clear HA
                  simp only [laws_FnHash.j2] at H
                  by_cases c31 : x80_25 = true
                  · subst c31
                    have H1 : (some false) = some r := by rw [if_pos rfl] at H; exact H
                    clear H
                    have H := H1
                    clear H1
                    obtain rfl := Option.some.inj H
                    go_wp2
                    repeat (go_quiet (fail); try go_wp2)
                    go_ret
                    exact ⟨by first | rfl | (simp [errW_none, errW_some] <;> rfl) | (simp [*, errW_none, errW_some] <;> rfl), by repeat (first | (with_reducible first | exact HB.out | apply below_alloc | apply pw_below_drewN | apply below_drew1) | exact HB.out)⟩
                  · replace c31 := Bool.eq_false_iff.mpr c31
                    subst c31
                    have H1 : (if t520 = true then (laws_FnHash.j3 kj25 l0 l1 t516 t517 t518 t521 (decide (t518 > 0))) else (laws_FnHash.j3 kj25 l0 l1 t516 t517 t518 t521 false)) = some r := by rw [if_neg (show ¬ (false = true) by decide)] at H; exact H
                    clear H
                    have H := H1
                    clear H1
                    have HC32 := Aside0.mk H
                    clear H
                    go_upto_region 12 with (fail)
                    repeat (go_quiet (fail); go_upto_region 12 with (fail))
                    go_cut [85] (fun v85 wc => ∃ (kq : Nat) (x85_31 : Bool), v85 = .bool x85_31 ∧ Aside0 (laws_FnHash.j3 kq l0 l1 t516 t517 t518 t521 x85_31 = some r) ∧ Aside0 (kq ≤ kj25) ∧ Aside0 (Below w.heap.size w wc))
                    case first =>
                      have H := HC32.out
                      clear HC32
                      by_cases c33 : t520 = true
                      · subst c33
                        have H1 : (laws_FnHash.j3 kj25 l0 l1 t516 t517 t518 t521 (decide (t518 > 0))) = some r := by rw [if_pos rfl] at H; exact H
                        clear H
                        have H := H1
                        clear H1
                        have H' := Aside0.mk H
                        clear H
                        go_wp2
                        repeat (go_quiet (fail); try go_wp2)
                        go_meet
                        case rel => exact ⟨_, (decide (t518 > 0)), (by first | rfl | (simp; done) | (simp [*]; done)), H', ⟨by have := HJ2.out; have := HJ7.out; have := HJ25.out; first | omega | exact Nat.le_refl _⟩, ⟨by repeat (first | (with_reducible first | exact HB.out | apply below_alloc | apply pw_below_drewN | apply below_drew1) | exact HB.out)⟩⟩
                      · replace c33 := Bool.eq_false_iff.mpr c33
                        subst c33
                        have H1 : (laws_FnHash.j3 kj25 l0 l1 t516 t517 t518 t521 false) = some r := by rw [if_neg (show ¬ (false = true) by decide)] at H; exact H
                        clear H
                        have H := H1
                        clear H1
                        have H' := Aside0.mk H
                        clear H
                        go_wp2
                        repeat (go_quiet (fail); try go_wp2)
                        go_meet
                        case rel => exact ⟨_, (false), (by first | rfl | (simp; done) | (simp [*]; done)), H', ⟨by have := HJ2.out; have := HJ7.out; have := HJ25.out; first | omega | exact Nat.le_refl _⟩, ⟨by repeat (first | (with_reducible first | exact HB.out | apply below_alloc | apply pw_below_drewN | apply below_drew1) | exact HB.out)⟩⟩
                    case rest =>
                      clear HC32
                      try clear c1
                      try clear c2
                      try clear p2
                      try clear c3
                      try clear c4
                      try clear c4b0
                      try clear c4b1
                      try clear c5
                      try clear c13
                      try clear c13b0
                      try clear c13b1
                      try clear c22
                      try clear c30
                      try clear c30b0
                      try clear c30b1
                      try clear c31
                      try clear c33
                      try clear p2
                      obtain ⟨kq, x85_31, rfl, HA, HJ31, HB⟩ := hcut
                      cases kq with
                      | zero => exact absurd HA.out (by simp [laws_FnHash.j3])
                      | succ kj31 =>
                        have H := HA.out
                        clear HA
                        simp only [laws_FnHash.j3] at H
                        have HC34 := Aside0.mk H
                        clear H
                        go_upto_if 85 with (fail)
                        repeat (go_quiet (fail); go_upto_if 85 with (fail))
                        go_cut [] (fun wc => ∃ (kq : Nat), Aside0 (laws_FnHash.j4 kq l0 = some r) ∧ Aside0 (kq ≤ kj31) ∧ Aside0 (Below w.heap.size w wc))
                        case first =>
                          have H := HC34.out
                          clear HC34
                          by_cases c35 : x85_31 = true
                          · subst c35
                            have H1 : ((laws_wPick.f l1 0).bind fun t523 => ((laws_wPick.f l1 1).bind fun t524 => (if t518 = 0 then (none) else ((impl_Expand.f t516 t517 (Int.tmod (wrap64 ((wrap64 (t523 * 256)) + t524)) t518)).bind fun bt525 => (if bt525.2 = true then (if 0 ≤ (Int.tmod (wrap64 ((wrap64 (t523 * 256)) + t524)) t518) then (if (Int.tmod (wrap64 ((wrap64 (t523 * 256)) + t524)) t518) ≤ (t521.size : Int) then (if bt525.1.toList = (t521.extract 0 ((Int.tmod (wrap64 ((wrap64 (t523 * 256)) + t524)) t518) : Int).toNat).toList then (laws_FnHash.j4 kj31 l0) else (some false)) else (none)) else (none)) else (some false)))))) = some r := by rw [if_pos rfl] at H; exact H
                            clear H
                            have H := H1
                            clear H1
                            replace H := Option.bind_eq_some_iff.mp H
                            obtain ⟨t523, A360, H⟩ := H
                            replace H : ((laws_wPick.f l1 1).bind fun t524 => (if t518 = 0 then (none) else ((impl_Expand.f t516 t517 (Int.tmod (wrap64 ((wrap64 (t523 * 256)) + t524)) t518)).bind fun bt525 => (if bt525.2 = true then (if 0 ≤ (Int.tmod (wrap64 ((wrap64 (t523 * 256)) + t524)) t518) then (if (Int.tmod (wrap64 ((wrap64 (t523 * 256)) + t524)) t518) ≤ (t521.size : Int) then (if bt525.1.toList = (t521.extract 0 ((Int.tmod (wrap64 ((wrap64 (t523 * 256)) + t524)) t518) : Int).toNat).toList then (laws_FnHash.j4 kj31 l0) else (some false)) else (none)) else (none)) else (some false))))) = some r := H
                            have A36 := Aside0.mk A360
                            clear A360
                            replace H := Option.bind_eq_some_iff.mp H
                            obtain ⟨t524, A370, H⟩ := H
                            replace H : (if t518 = 0 then (none) else ((impl_Expand.f t516 t517 (Int.tmod (wrap64 ((wrap64 (t523 * 256)) + t524)) t518)).bind fun bt525 => (if bt525.2 = true then (if 0 ≤ (Int.tmod (wrap64 ((wrap64 (t523 * 256)) + t524)) t518) then (if (Int.tmod (wrap64 ((wrap64 (t523 * 256)) + t524)) t518) ≤ (t521.size : Int) then (if bt525.1.toList = (t521.extract 0 ((Int.tmod (wrap64 ((wrap64 (t523 * 256)) + t524)) t518) : Int).toNat).toList then (laws_FnHash.j4 kj31 l0) else (some false)) else (none)) else (none)) else (some false)))) = some r := H
                            have A37 := Aside0.mk A370
                            clear A370
                            by_cases c38 : t518 = 0
                            · rw [if_pos c38] at H
                              exact absurd H (by simp)
                            · rw [if_neg c38] at H
                              have c38b0 : (t518 == 0) = false := beq_eq_false_iff_ne.mpr c38
                              have c38b1 : (t518 != 0) = true := bne_iff_ne.mpr c38
                              (first | rw [c38b0] | (simp only [i64_w, i32_w]; rw [c38b0]) | skip)
                              replace H := Option.bind_eq_some_iff.mp H
                              obtain ⟨⟨t525, t526⟩, A390, H⟩ := H
                              replace H : (if t526 = true then (if 0 ≤ (Int.tmod (wrap64 ((wrap64 (t523 * 256)) + t524)) t518) then (if (Int.tmod (wrap64 ((wrap64 (t523 * 256)) + t524)) t518) ≤ (t521.size : Int) then (if t525.toList = (t521.extract 0 ((Int.tmod (wrap64 ((wrap64 (t523 * 256)) + t524)) t518) : Int).toNat).toList then (laws_FnHash.j4 kj31 l0) else (some false)) else (none)) else (none)) else (some false)) = some r := H
                              have A39 := Aside0.mk A390
                              clear A390
                              by_cases c40 : t526 = true
                              · subst c40
                                have H1 : (if 0 ≤ (Int.tmod (wrap64 ((wrap64 (t523 * 256)) + t524)) t518) then (if (Int.tmod (wrap64 ((wrap64 (t523 * 256)) + t524)) t518) ≤ (t521.size : Int) then (if t525.toList = (t521.extract 0 ((Int.tmod (wrap64 ((wrap64 (t523 * 256)) + t524)) t518) : Int).toNat).toList then (laws_FnHash.j4 kj31 l0) else (some false)) else (none)) else (none)) = some r := by rw [if_pos rfl] at H; exact H
                                clear H
                                have H := H1
                                clear H1
                                obtain ⟨ji41, hji41⟩ : ∃ j_ : Int, (Int.tmod (wrap64 ((wrap64 (t523 * 256)) + t524)) t518) = j_ := ⟨_, rfl⟩
                                replace H : (if 0 ≤ (ji41) then (if (ji41) ≤ (t521.size : Int) then (if t525.toList = (t521.extract 0 ((ji41) : Int).toNat).toList then (laws_FnHash.j4 kj31 l0) else (some false)) else (none)) else (none)) = some r := by first | (rw [hji41] at H; exact H) | (simp only [hji41] at H ⊢; exact H)
                                (try rw [hji41] at A36)
                                (try rw [hji41] at A37)
                                (try rw [hji41] at A39)
                                by_cases c42 : 0 ≤ (ji41)
                                · rw [if_pos c42] at H
                                  have c42b0 := eq_true c42
                                  have c42b1 : decide (0 ≤ (ji41)) = true := decide_eq_true c42
                                  clear c42
                                  by_cases c43 : (ji41) ≤ (t521.size : Int)
                                  · rw [if_pos c43] at H
                                    have c43b0 := eq_true c43
                                    have c43b1 : decide ((ji41) ≤ (t521.size : Int)) = true := decide_eq_true c43
                                    clear c43
                                    by_cases c44 : t525.toList = (t521.extract 0 ((ji41) : Int).toNat).toList
                                    · rw [if_pos c44] at H
                                      have c44b0 : (t525.toList == (t521.extract 0 ((ji41) : Int).toNat).toList) = true := beq_iff_eq.mpr c44
                                      have c44b1 : (t525.toList != (t521.extract 0 ((ji41) : Int).toNat).toList) = false := bne_eq_false_iff_eq.mpr c44
                                      clear c44
                                      have H' := Aside0.mk H
                                      clear H
                                      go_wp2_with (first | (go_at_call 28; (with_reducible refine (laws_wPick.calls _ _ l1 0 t523 _ ?side1 ?side2 A36.out).mono ?_); (case side1 => repeat (first | exact (Kd.C_below HR1.out HB.out) | (with_reducible refine Kd.C_alloc ?_ _) | (with_reducible refine Kd.C_drewN ?_ _) | (with_reducible refine Kd.C_drew ?_))); (case side2 => exact HC1.out); rintro e w' ⟨rfl, ⟨nd, rfl⟩⟩; (try first | exact ⟨rfl, _, World.drewN_drewN _ _ _⟩ | exact ⟨rfl, _, Eq.trans (World.drewN_drewN _ _ _) (congrArg (World.drewN _) (Nat.add_assoc _ _ _))⟩)) | (go_at_call 28; (with_reducible refine (laws_wPick.calls _ _ l1 1 t524 _ ?side1 ?side2 A37.out).mono ?_); (case side1 => repeat (first | exact (Kd.C_below HR1.out (by repeat (first | (with_reducible first | exact HB.out | apply below_alloc | apply pw_below_drewN | apply below_drew1) | exact HB.out))) | (with_reducible refine Kd.C_alloc ?_ _) | (with_reducible refine Kd.C_drewN ?_ _) | (with_reducible refine Kd.C_drew ?_))); (case side2 => exact HC1.out); rintro e w' ⟨rfl, ⟨nd, rfl⟩⟩; (try first | exact ⟨rfl, _, World.drewN_drewN _ _ _⟩ | exact ⟨rfl, _, Eq.trans (World.drewN_drewN _ _ _) (congrArg (World.drewN _) (Nat.add_assoc _ _ _))⟩)) | (go_at_call 27; (with_reducible refine (impl_Expand.calls t516 t517 ji41 t525 true _ A39.out ?_).mono ?_); (exact Glob.of_below hG (by repeat (first | (with_reducible first | exact HB.out | apply below_alloc | apply pw_below_drewN | apply below_drew1) | exact HB.out))); rintro e w45 ⟨rfl, hb⟩; have n0_ := Aside0.mk (below_step (by repeat (first | (with_reducible first | exact HB.out | apply below_alloc | apply pw_below_drewN | apply below_drew1) | exact HB.out)) hb); clear HB; have HB := n0_; clear n0_; (try clear hb); (try clear hb2); (try clear hk); (try clear hi)))
                                      repeat (go_quiet (first | (go_at_call 28; (with_reducible refine (laws_wPick.calls _ _ l1 0 t523 _ ?side1 ?side2 A36.out).mono ?_); (case side1 => repeat (first | exact (Kd.C_below HR1.out HB.out) | (with_reducible refine Kd.C_alloc ?_ _) | (with_reducible refine Kd.C_drewN ?_ _) | (with_reducible refine Kd.C_drew ?_))); (case side2 => exact HC1.out); rintro e w' ⟨rfl, ⟨nd, rfl⟩⟩; (try first | exact ⟨rfl, _, World.drewN_drewN _ _ _⟩ | exact ⟨rfl, _, Eq.trans (World.drewN_drewN _ _ _) (congrArg (World.drewN _) (Nat.add_assoc _ _ _))⟩)) | (go_at_call 28; (with_reducible refine (laws_wPick.calls _ _ l1 1 t524 _ ?side1 ?side2 A37.out).mono ?_); (case side1 => repeat (first | exact (Kd.C_below HR1.out (by repeat (first | (with_reducible first | exact HB.out | apply below_alloc | apply pw_below_drewN | apply below_drew1) | exact HB.out))) | (with_reducible refine Kd.C_alloc ?_ _) | (with_reducible refine Kd.C_drewN ?_ _) | (with_reducible refine Kd.C_drew ?_))); (case side2 => exact HC1.out); rintro e w' ⟨rfl, ⟨nd, rfl⟩⟩; (try first | exact ⟨rfl, _, World.drewN_drewN _ _ _⟩ | exact ⟨rfl, _, Eq.trans (World.drewN_drewN _ _ _) (congrArg (World.drewN _) (Nat.add_assoc _ _ _))⟩)) | (go_at_call 27; (with_reducible refine (impl_Expand.calls t516 t517 ji41 t525 true _ A39.out ?_).mono ?_); (exact Glob.of_below hG (by repeat (first | (with_reducible first | exact HB.out | apply below_alloc | apply pw_below_drewN | apply below_drew1) | exact HB.out))); rintro e w45 ⟨rfl, hb⟩; have n0_ := Aside0.mk (below_step (by repeat (first | (with_reducible first | exact HB.out | apply below_alloc | apply pw_below_drewN | apply below_drew1) | exact HB.out)) hb); clear HB; have HB := n0_; clear n0_; (try clear hb); (try clear hb2); (try clear hk); (try clear hi))); try go_wp2_with (first | (go_at_call 28; (with_reducible refine (laws_wPick.calls _ _ l1 0 t523 _ ?side1 ?side2 A36.out).mono ?_); (case side1 => repeat (first | exact (Kd.C_below HR1.out HB.out) | (with_reducible refine Kd.C_alloc ?_ _) | (with_reducible refine Kd.C_drewN ?_ _) | (with_reducible refine Kd.C_drew ?_))); (case side2 => exact HC1.out); rintro e w' ⟨rfl, ⟨nd, rfl⟩⟩; (try first | exact ⟨rfl, _, World.drewN_drewN _ _ _⟩ | exact ⟨rfl, _, Eq.trans (World.drewN_drewN _ _ _) (congrArg (World.drewN _) (Nat.add_assoc _ _ _))⟩)) | (go_at_call 28; (with_reducible refine (laws_wPick.calls _ _ l1 1 t524 _ ?side1 ?side2 A37.out).mono ?_); (case side1 => repeat (first | exact (Kd.C_below HR1.out (by repeat (first | (with_reducible first | exact HB.out | apply below_alloc | apply pw_below_drewN | apply below_drew1) | exact HB.out))) | (with_reducible refine Kd.C_alloc ?_ _) | (with_reducible refine Kd.C_drewN ?_ _) | (with_reducible refine Kd.C_drew ?_))); (case side2 => exact HC1.out); rintro e w' ⟨rfl, ⟨nd, rfl⟩⟩; (try first | exact ⟨rfl, _, World.drewN_drewN _ _ _⟩ | exact ⟨rfl, _, Eq.trans (World.drewN_drewN _ _ _) (congrArg (World.drewN _) (Nat.add_assoc _ _ _))⟩)) | (go_at_call 27; (with_reducible refine (impl_Expand.calls t516 t517 ji41 t525 true _ A39.out ?_).mono ?_); (exact Glob.of_below hG (by repeat (first | (with_reducible first | exact HB.out | apply below_alloc | apply pw_below_drewN | apply below_drew1) | exact HB.out))); rintro e w45 ⟨rfl, hb⟩; have n0_ := Aside0.mk (below_step (by repeat (first | (with_reducible first | exact HB.out | apply below_alloc | apply pw_below_drewN | apply below_drew1) | exact HB.out)) hb); clear HB; have HB := n0_; clear n0_; (try clear hb); (try clear hb2); (try clear hk); (try clear hi))))
                                      go_meet
                                      case rel => exact ⟨_, H', ⟨by have := HJ2.out; have := HJ7.out; have := HJ25.out; have := HJ31.out; first | omega | exact Nat.le_refl _⟩, ⟨by repeat (first | (with_reducible first | exact HB.out | apply below_alloc | apply pw_below_drewN | apply below_drew1) | exact HB.out)⟩⟩
                                    · rw [if_neg c44] at H
                                      have c44b0 : (t525.toList == (t521.extract 0 ((ji41) : Int).toNat).toList) = false := beq_eq_false_iff_ne.mpr c44
                                      have c44b1 : (t525.toList != (t521.extract 0 ((ji41) : Int).toNat).toList) = true := bne_iff_ne.mpr c44
                                      obtain rfl := Option.some.inj H
                                      go_wp2_with (first | (go_at_call 28; (with_reducible refine (laws_wPick.calls _ _ l1 0 t523 _ ?side1 ?side2 A36.out).mono ?_); (case side1 => repeat (first | exact (Kd.C_below HR1.out HB.out) | (with_reducible refine Kd.C_alloc ?_ _) | (with_reducible refine Kd.C_drewN ?_ _) | (with_reducible refine Kd.C_drew ?_))); (case side2 => exact HC1.out); rintro e w' ⟨rfl, ⟨nd, rfl⟩⟩; (try first | exact ⟨rfl, _, World.drewN_drewN _ _ _⟩ | exact ⟨rfl, _, Eq.trans (World.drewN_drewN _ _ _) (congrArg (World.drewN _) (Nat.add_assoc _ _ _))⟩)) | (go_at_call 28; (with_reducible refine (laws_wPick.calls _ _ l1 1 t524 _ ?side1 ?side2 A37.out).mono ?_); (case side1 => repeat (first | exact (Kd.C_below HR1.out (by repeat (first | (with_reducible first | exact HB.out | apply below_alloc | apply pw_below_drewN | apply below_drew1) | exact HB.out))) | (with_reducible refine Kd.C_alloc ?_ _) | (with_reducible refine Kd.C_drewN ?_ _) | (with_reducible refine Kd.C_drew ?_))); (case side2 => exact HC1.out); rintro e w' ⟨rfl, ⟨nd, rfl⟩⟩; (try first | exact ⟨rfl, _, World.drewN_drewN _ _ _⟩ | exact ⟨rfl, _, Eq.trans (World.drewN_drewN _ _ _) (congrArg (World.drewN _) (Nat.add_assoc _ _ _))⟩)) | (go_at_call 27; (with_reducible refine (impl_Expand.calls t516 t517 ji41 t525 true _ A39.out ?_).mono ?_); (exact Glob.of_below hG (by repeat (first | (with_reducible first | exact HB.out | apply below_alloc | apply pw_below_drewN | apply below_drew1) | exact HB.out))); rintro e w46 ⟨rfl, hb⟩; have n0_ := Aside0.mk (below_step (by repeat (first | (with_reducible first | exact HB.out | apply below_alloc | apply pw_below_drewN | apply below_drew1) | exact HB.out)) hb); clear HB; have HB := n0_; clear n0_; (try clear hb); (try clear hb2); (try clear hk); (try clear hi)))
                                      repeat (go_quiet (first | (go_at_call 28; (with_reducible refine (laws_wPick.calls _ _ l1 0 t523 _ ?side1 ?side2 A36.out).mono ?_); (case side1 => repeat (first | exact (Kd.C_below HR1.out HB.out) | (with_reducible refine Kd.C_alloc ?_ _) | (with_reducible refine Kd.C_drewN ?_ _) | (with_reducible refine Kd.C_drew ?_))); (case side2 => exact HC1.out); rintro e w' ⟨rfl, ⟨nd, rfl⟩⟩; (try first | exact ⟨rfl, _, World.drewN_drewN _ _ _⟩ | exact ⟨rfl, _, Eq.trans (World.drewN_drewN _ _ _) (congrArg (World.drewN _) (Nat.add_assoc _ _ _))⟩)) | (go_at_call 28; (with_reducible refine (laws_wPick.calls _ _ l1 1 t524 _ ?side1 ?side2 A37.out).mono ?_); (case side1 => repeat (first | exact (Kd.C_below HR1.out (by repeat (first | (with_reducible first | exact HB.out | apply below_alloc | apply pw_below_drewN | apply below_drew1) | exact HB.out))) | (with_reducible refine Kd.C_alloc ?_ _) | (with_reducible refine Kd.C_drewN ?_ _) | (with_reducible refine Kd.C_drew ?_))); (case side2 => exact HC1.out); rintro e w' ⟨rfl, ⟨nd, rfl⟩⟩; (try first | exact ⟨rfl, _, World.drewN_drewN _ _ _⟩ | exact ⟨rfl, _, Eq.trans (World.drewN_drewN _ _ _) (congrArg (World.drewN _) (Nat.add_assoc _ _ _))⟩)) | (go_at_call 27; (with_reducible refine (impl_Expand.calls t516 t517 ji41 t525 true _ A39.out ?_).mono ?_); (exact Glob.of_below hG (by repeat (first | (with_reducible first | exact HB.out | apply below_alloc | apply pw_below_drewN | apply below_drew1) | exact HB.out))); rintro e w46 ⟨rfl, hb⟩; have n0_ := Aside0.mk (below_step (by repeat (first | (with_reducible first | exact HB.out | apply below_alloc | apply pw_below_drewN | apply below_drew1) | exact HB.out)) hb); clear HB; have HB := n0_; clear n0_; (try clear hb); (try clear hb2); (try clear hk); (try clear hi))); try go_wp2_with (first | (go_at_call 28; (with_reducible refine (laws_wPick.calls _ _ l1 0 t523 _ ?side1 ?side2 A36.out).mono ?_); (case side1 => repeat (first | exact (Kd.C_below HR1.out HB.out) | (with_reducible refine Kd.C_alloc ?_ _) | (with_reducible refine Kd.C_drewN ?_ _) | (with_reducible refine Kd.C_drew ?_))); (case side2 => exact HC1.out); rintro e w' ⟨rfl, ⟨nd, rfl⟩⟩; (try first | exact ⟨rfl, _, World.drewN_drewN _ _ _⟩ | exact ⟨rfl, _, Eq.trans (World.drewN_drewN _ _ _) (congrArg (World.drewN _) (Nat.add_assoc _ _ _))⟩)) | (go_at_call 28; (with_reducible refine (laws_wPick.calls _ _ l1 1 t524 _ ?side1 ?side2 A37.out).mono ?_); (case side1 => repeat (first | exact (Kd.C_below HR1.out (by repeat (first | (with_reducible first | exact HB.out | apply below_alloc | apply pw_below_drewN | apply below_drew1) | exact HB.out))) | (with_reducible refine Kd.C_alloc ?_ _) | (with_reducible refine Kd.C_drewN ?_ _) | (with_reducible refine Kd.C_drew ?_))); (case side2 => exact HC1.out); rintro e w' ⟨rfl, ⟨nd, rfl⟩⟩; (try first | exact ⟨rfl, _, World.drewN_drewN _ _ _⟩ | exact ⟨rfl, _, Eq.trans (World.drewN_drewN _ _ _) (congrArg (World.drewN _) (Nat.add_assoc _ _ _))⟩)) | (go_at_call 27; (with_reducible refine (impl_Expand.calls t516 t517 ji41 t525 true _ A39.out ?_).mono ?_); (exact Glob.of_below hG (by repeat (first | (with_reducible first | exact HB.out | apply below_alloc | apply pw_below_drewN | apply below_drew1) | exact HB.out))); rintro e w46 ⟨rfl, hb⟩; have n0_ := Aside0.mk (below_step (by repeat (first | (with_reducible first | exact HB.out | apply below_alloc | apply pw_below_drewN | apply below_drew1) | exact HB.out)) hb); clear HB; have HB := n0_; clear n0_; (try clear hb); (try clear hb2); (try clear hk); (try clear hi))))
                                      go_ret
                                      exact ⟨by first | rfl | (simp [errW_none, errW_some] <;> rfl) | (simp only [← hji41]; first | rfl | (simp [errW_none, errW_some] <;> rfl)) | (simp [*, errW_none, errW_some] <;> rfl), by repeat (first | (with_reducible first | exact HB.out | apply below_alloc | apply pw_below_drewN | apply below_drew1) | exact HB.out)⟩
                                  · rw [if_neg c43] at H
                                    exact absurd H (by simp)
                                · rw [if_neg c42] at H
                                  exact absurd H (by simp)
                              · replace c40 := Bool.eq_false_iff.mpr c40
                                subst c40
                                have H1 : (some false) = some r := by rw [if_neg (show ¬ (false = true) by decide)] at H; exact H
                                clear H
                                have H := H1
                                clear H1
                                obtain rfl := Option.some.inj H
                                go_wp2_with (first | (go_at_call 28; (with_reducible refine (laws_wPick.calls _ _ l1 0 t523 _ ?side1 ?side2 A36.out).mono ?_); (case side1 => repeat (first | exact (Kd.C_below HR1.out HB.out) | (with_reducible refine Kd.C_alloc ?_ _) | (with_reducible refine Kd.C_drewN ?_ _) | (with_reducible refine Kd.C_drew ?_))); (case side2 => exact HC1.out); rintro e w' ⟨rfl, ⟨nd, rfl⟩⟩; (try first | exact ⟨rfl, _, World.drewN_drewN _ _ _⟩ | exact ⟨rfl, _, Eq.trans (World.drewN_drewN _ _ _) (congrArg (World.drewN _) (Nat.add_assoc _ _ _))⟩)) | (go_at_call 28; (with_reducible refine (laws_wPick.calls _ _ l1 1 t524 _ ?side1 ?side2 A37.out).mono ?_); (case side1 => repeat (first | exact (Kd.C_below HR1.out (by repeat (first | (with_reducible first | exact HB.out | apply below_alloc | apply pw_below_drewN | apply below_drew1) | exact HB.out))) | (with_reducible refine Kd.C_alloc ?_ _) | (with_reducible refine Kd.C_drewN ?_ _) | (with_reducible refine Kd.C_drew ?_))); (case side2 => exact HC1.out); rintro e w' ⟨rfl, ⟨nd, rfl⟩⟩; (try first | exact ⟨rfl, _, World.drewN_drewN _ _ _⟩ | exact ⟨rfl, _, Eq.trans (World.drewN_drewN _ _ _) (congrArg (World.drewN _) (Nat.add_assoc _ _ _))⟩)) | (go_at_call 27; (with_reducible refine (impl_Expand.calls t516 t517 (Int.tmod (wrap64 ((wrap64 (t523 * 256)) + t524)) t518) t525 false _ A39.out ?_).mono ?_); (exact Glob.of_below hG (by repeat (first | (with_reducible first | exact HB.out | apply below_alloc | apply pw_below_drewN | apply below_drew1) | exact HB.out))); rintro e w47 ⟨rfl, hb⟩; have n0_ := Aside0.mk (below_step (by repeat (first | (with_reducible first | exact HB.out | apply below_alloc | apply pw_below_drewN | apply below_drew1) | exact HB.out)) hb); clear HB; have HB := n0_; clear n0_; (try clear hb); (try clear hb2); (try clear hk); (try clear hi)))
                                repeat (go_quiet (first | (go_at_call 28; (with_reducible refine (laws_wPick.calls _ _ l1 0 t523 _ ?side1 ?side2 A36.out).mono ?_); (case side1 => repeat (first | exact (Kd.C_below HR1.out HB.out) | (with_reducible refine Kd.C_alloc ?_ _) | (with_reducible refine Kd.C_drewN ?_ _) | (with_reducible refine Kd.C_drew ?_))); (case side2 => exact HC1.out); rintro e w' ⟨rfl, ⟨nd, rfl⟩⟩; (try first | exact ⟨rfl, _, World.drewN_drewN _ _ _⟩ | exact ⟨rfl, _, Eq.trans (World.drewN_drewN _ _ _) (congrArg (World.drewN _) (Nat.add_assoc _ _ _))⟩)) | (go_at_call 28; (with_reducible refine (laws_wPick.calls _ _ l1 1 t524 _ ?side1 ?side2 A37.out).mono ?_); (case side1 => repeat (first | exact (Kd.C_below HR1.out (by repeat (first | (with_reducible first | exact HB.out | apply below_alloc | apply pw_below_drewN | apply below_drew1) | exact HB.out))) | (with_reducible refine Kd.C_alloc ?_ _) | (with_reducible refine Kd.C_drewN ?_ _) | (with_reducible refine Kd.C_drew ?_))); (case side2 => exact HC1.out); rintro e w' ⟨rfl, ⟨nd, rfl⟩⟩; (try first | exact ⟨rfl, _, World.drewN_drewN _ _ _⟩ | exact ⟨rfl, _, Eq.trans (World.drewN_drewN _ _ _) (congrArg (World.drewN _) (Nat.add_assoc _ _ _))⟩)) | (go_at_call 27; (with_reducible refine (impl_Expand.calls t516 t517 (Int.tmod (wrap64 ((wrap64 (t523 * 256)) + t524)) t518) t525 false _ A39.out ?_).mono ?_); (exact Glob.of_below hG (by repeat (first | (with_reducible first | exact HB.out | apply below_alloc | apply pw_below_drewN | apply below_drew1) | exact HB.out))); rintro e w47 ⟨rfl, hb⟩; have n0_ := Aside0.mk (below_step (by repeat (first | (with_reducible first | exact HB.out | apply below_alloc | apply pw_below_drewN | apply below_drew1) | exact HB.out)) hb); clear HB; have HB := n0_; clear n0_; (try clear hb); (try clear hb2); (try clear hk); (try clear hi))); try go_wp2_with (first | (go_at_call 28; (with_reducible refine (laws_wPick.calls _ _ l1 0 t523 _ ?side1 ?side2 A36.out).mono ?_); (case side1 => repeat (first | exact (Kd.C_below HR1.out HB.out) | (with_reducible refine Kd.C_alloc ?_ _) | (with_reducible refine Kd.C_drewN ?_ _) | (with_reducible refine Kd.C_drew ?_))); (case side2 => exact HC1.out); rintro e w' ⟨rfl, ⟨nd, rfl⟩⟩; (try first | exact ⟨rfl, _, World.drewN_drewN _ _ _⟩ | exact ⟨rfl, _, Eq.trans (World.drewN_drewN _ _ _) (congrArg (World.drewN _) (Nat.add_assoc _ _ _))⟩)) | (go_at_call 28; (with_reducible refine (laws_wPick.calls _ _ l1 1 t524 _ ?side1 ?side2 A37.out).mono ?_); (case side1 => repeat (first | exact (Kd.C_below HR1.out (by repeat (first | (with_reducible first | exact HB.out | apply below_alloc | apply pw_below_drewN | apply below_drew1) | exact HB.out))) | (with_reducible refine Kd.C_alloc ?_ _) | (with_reducible refine Kd.C_drewN ?_ _) | (with_reducible refine Kd.C_drew ?_))); (case side2 => exact HC1.out); rintro e w' ⟨rfl, ⟨nd, rfl⟩⟩; (try first | exact ⟨rfl, _, World.drewN_drewN _ _ _⟩ | exact ⟨rfl, _, Eq.trans (World.drewN_drewN _ _ _) (congrArg (World.drewN _) (Nat.add_assoc _ _ _))⟩)) | (go_at_call 27; (with_reducible refine (impl_Expand.calls t516 t517 (Int.tmod (wrap64 ((wrap64 (t523 * 256)) + t524)) t518) t525 false _ A39.out ?_).mono ?_); (exact Glob.of_below hG (by repeat (first | (with_reducible first | exact HB.out | apply below_alloc | apply pw_below_drewN | apply below_drew1) | exact HB.out))); rintro e w47 ⟨rfl, hb⟩; have n0_ := Aside0.mk (below_step (by repeat (first | (with_reducible first | exact HB.out | apply below_alloc | apply pw_below_drewN | apply below_drew1) | exact HB.out)) hb); clear HB; have HB := n0_; clear n0_; (try clear hb); (try clear hb2); (try clear hk); (try clear hi))))
                                go_ret
                                exact ⟨by first | rfl | (simp [errW_none, errW_some] <;> rfl) | (simp [*, errW_none, errW_some] <;> rfl), by repeat (first | (with_reducible first | exact HB.out | apply below_alloc | apply pw_below_drewN | apply below_drew1) | exact HB.out)⟩
                          · replace c35 := Bool.eq_false_iff.mpr c35
                            subst c35
                            have H1 : (laws_FnHash.j4 kj31 l0) = some r := by rw [if_neg (show ¬ (false = true) by decide)] at H; exact H
                            clear H
                            have H := H1
                            clear H1
                            have H' := Aside0.mk H
                            clear H
                            go_wp2
                            repeat (go_quiet (fail); try go_wp2)
                            go_meet
                            case rel => exact ⟨_, H', ⟨by have := HJ2.out; have := HJ7.out; have := HJ25.out; have := HJ31.out; first | omega | exact Nat.le_refl _⟩, ⟨by repeat (first | (with_reducible first | exact HB.out | apply below_alloc | apply pw_below_drewN | apply below_drew1) | exact HB.out)⟩⟩
                        case rest =>
                          clear HC34
                          try clear c1
                          try clear c2
                          try clear p2
                          try clear c3
                          try clear c4
                          try clear c4b0
                          try clear c4b1
                          try clear c5
                          try clear p6
                          try clear c13
                          try clear c13b0
                          try clear c13b1
                          try clear c22
                          try clear c30
                          try clear c30b0
                          try clear c30b1
                          try clear c31
                          try clear c33
                          try clear c35
                          try clear c38
                          try clear c38b0
                          try clear c38b1
                          try clear c40
                          try clear c42
                          try clear c42b0
                          try clear c42b1
                          try clear c43
                          try clear c43b0
                          try clear c43b1
                          try clear c44
                          try clear c44b0
                          try clear c44b1
                          try clear p2
                          obtain ⟨kq, HA, HJ33, HB⟩ := hcut
                          cases kq with
                          | zero => exact absurd HA.out (by simp [laws_FnHash.j4])
                          | succ kj33 =>
                            have H := HA.out
                            clear HA
                            simp only [laws_FnHash.j4] at H
                            replace H := Option.bind_eq_some_iff.mp H
                            obtain ⟨⟨t527, t528, t529⟩, A480, H⟩ := H
                            replace H : ((spec_ExpandMessage.f kj33 t527 t528 t529).bind fun bt530 => ((impl_ExpandMessage.f t527 t528 t529).bind fun bt532 => (if (bt532.2 != bt530.2) = true then (laws_FnHash.j5 kj33 t527 t528 true) else (if bt530.2 = true then (laws_FnHash.j5 kj33 t527 t528 ((bt532.1.size : Int) != t529)) else (laws_FnHash.j5 kj33 t527 t528 false))))) = some r := H
                            have A48 := Aside0.mk A480
                            clear A480
                            replace H := Option.bind_eq_some_iff.mp H
                            obtain ⟨⟨t530, t531⟩, A490, H⟩ := H
                            replace H : ((impl_ExpandMessage.f t527 t528 t529).bind fun bt532 => (if (bt532.2 != t531) = true then (laws_FnHash.j5 kj33 t527 t528 true) else (if t531 = true then (laws_FnHash.j5 kj33 t527 t528 ((bt532.1.size : Int) != t529)) else (laws_FnHash.j5 kj33 t527 t528 false)))) = some r := H
                            have A49 := Aside0.mk A490
                            clear A490
                            replace H := Option.bind_eq_some_iff.mp H
                            obtain ⟨⟨t532, t533⟩, A500, H⟩ := H
                            replace H : (if (t533 != t531) = true then (laws_FnHash.j5 kj33 t527 t528 true) else (if t531 = true then (laws_FnHash.j5 kj33 t527 t528 ((t532.size : Int) != t529)) else (laws_FnHash.j5 kj33 t527 t528 false))) = some r := H
                            have A50 := Aside0.mk A500
                            clear A500
                            have HC51 := Aside0.mk H
                            clear H
                            go_upto_region 20 with (first | (go_at_call 29; (with_reducible refine (spec_DrawExpandMessage.calls kj33 _ _ l0 t527 t528 t529 _ ?side1 ?side2 A48.out).mono ?_); (case side1 => repeat (first | exact (Kd.C_below HR0.out HB.out) | (with_reducible refine Kd.C_alloc ?_ _) | (with_reducible refine Kd.C_drewN ?_ _) | (with_reducible refine Kd.C_drew ?_))); (case side2 => exact HC0.out); rintro e w52 ⟨rfl, hb⟩; have n0_ := Aside0.mk (below_step (by repeat (first | (with_reducible first | exact HB.out | apply below_alloc | apply pw_below_drewN | apply below_drew1) | exact HB.out)) hb); clear HB; have HB := n0_; clear n0_; (try clear hb); (try clear hb2); (try clear hk); (try clear hi)) | (go_at_call 30; (with_reducible refine (spec_ExpandMessage.calls kj33 t527 t528 t529 t530 t531 _ A49.out).mono ?_); rintro e w53 ⟨rfl, hb⟩; have n0_ := Aside0.mk (below_step (by repeat (first | (with_reducible first | exact HB.out | apply below_alloc | apply pw_below_drewN | apply below_drew1) | exact HB.out)) hb); clear HB; have HB := n0_; clear n0_; (try clear hb); (try clear hb2); (try clear hk); (try clear hi)) | (go_at_call 31; (with_reducible refine (impl_ExpandMessage.calls t527 t528 t529 t532 t533 _ A50.out ?_).mono ?_); (exact Glob.of_below hG (by repeat (first | (with_reducible first | exact HB.out | apply below_alloc | apply pw_below_drewN | apply below_drew1) | exact HB.out))); rintro e w54 ⟨rfl, hb⟩; have n0_ := Aside0.mk (below_step (by repeat (first | (with_reducible first | exact HB.out | apply below_alloc | apply pw_below_drewN | apply below_drew1) | exact HB.out)) hb); clear HB; have HB := n0_; clear n0_; (try clear hb); (try clear hb2); (try clear hk); (try clear hi)))
                            repeat (go_quiet (first | (go_at_call 29; (with_reducible refine (spec_DrawExpandMessage.calls kj33 _ _ l0 t527 t528 t529 _ ?side1 ?side2 A48.out).mono ?_); (case side1 => repeat (first | exact (Kd.C_below HR0.out HB.out) | (with_reducible refine Kd.C_alloc ?_ _) | (with_reducible refine Kd.C_drewN ?_ _) | (with_reducible refine Kd.C_drew ?_))); (case side2 => exact HC0.out); rintro e w52 ⟨rfl, hb⟩; have n0_ := Aside0.mk (below_step (by repeat (first | (with_reducible first | exact HB.out | apply below_alloc | apply pw_below_drewN | apply below_drew1) | exact HB.out)) hb); clear HB; have HB := n0_; clear n0_; (try clear hb); (try clear hb2); (try clear hk); (try clear hi)) | (go_at_call 30; (with_reducible refine (spec_ExpandMessage.calls kj33 t527 t528 t529 t530 t531 _ A49.out).mono ?_); rintro e w53 ⟨rfl, hb⟩; have n0_ := Aside0.mk (below_step (by repeat (first | (with_reducible first | exact HB.out | apply below_alloc | apply pw_below_drewN | apply below_drew1) | exact HB.out)) hb); clear HB; have HB := n0_; clear n0_; (try clear hb); (try clear hb2); (try clear hk); (try clear hi)) | (go_at_call 31; (with_reducible refine (impl_ExpandMessage.calls t527 t528 t529 t532 t533 _ A50.out ?_).mono ?_); (exact Glob.of_below hG (by repeat (first | (with_reducible first | exact HB.out | apply below_alloc | apply pw_below_drewN | apply below_drew1) | exact HB.out))); rintro e w54 ⟨rfl, hb⟩; have n0_ := Aside0.mk (below_step (by repeat (first | (with_reducible first | exact HB.out | apply below_alloc | apply pw_below_drewN | apply below_drew1) | exact HB.out)) hb); clear HB; have HB := n0_; clear n0_; (try clear hb); (try clear hb2); (try clear hk); (try clear hi))); go_upto_region 20 with (first | (go_at_call 29; (with_reducible refine (spec_DrawExpandMessage.calls kj33 _ _ l0 t527 t528 t529 _ ?side1 ?side2 A48.out).mono ?_); (case side1 => repeat (first | exact (Kd.C_below HR0.out HB.out) | (with_reducible refine Kd.C_alloc ?_ _) | (with_reducible refine Kd.C_drewN ?_ _) | (with_reducible refine Kd.C_drew ?_))); (case side2 => exact HC0.out); rintro e w52 ⟨rfl, hb⟩; have n0_ := Aside0.mk (below_step (by repeat (first | (with_reducible first | exact HB.out | apply below_alloc | apply pw_below_drewN | apply below_drew1) | exact HB.out)) hb); clear HB; have HB := n0_; clear n0_; (try clear hb); (try clear hb2); (try clear hk); (try clear hi)) | (go_at_call 30; (with_reducible refine (spec_ExpandMessage.calls kj33 t527 t528 t529 t530 t531 _ A49.out).mono ?_); rintro e w53 ⟨rfl, hb⟩; have n0_ := Aside0.mk (below_step (by repeat (first | (with_reducible first | exact HB.out | apply below_alloc | apply pw_below_drewN | apply below_drew1) | exact HB.out)) hb); clear HB; have HB := n0_; clear n0_; (try clear hb); (try clear hb2); (try clear hk); (try clear hi)) | (go_at_call 31; (with_reducible refine (impl_ExpandMessage.calls t527 t528 t529 t532 t533 _ A50.out ?_).mono ?_); (exact Glob.of_below hG (by repeat (first | (with_reducible first | exact HB.out | apply below_alloc | apply pw_below_drewN | apply below_drew1) | exact HB.out))); rintro e w54 ⟨rfl, hb⟩; have n0_ := Aside0.mk (below_step (by repeat (first | (with_reducible first | exact HB.out | apply below_alloc | apply pw_below_drewN | apply below_drew1) | exact HB.out)) hb); clear HB; have HB := n0_; clear n0_; (try clear hb); (try clear hb2); (try clear hk); (try clear hi))))
                            (try simp only [Act.put, List.setIfInBounds_toArray, List.set_cons_zero, List.set_cons_succ])
                            go_cut [141] (fun v141 wc => ∃ (kq : Nat) (x141_50 : Bool), v141 = .bool x141_50 ∧ Aside0 (laws_FnHash.j5 kq t527 t528 x141_50 = some r) ∧ Aside0 (kq ≤ kj33) ∧ Aside0 (Below w.heap.size w wc))
                            case first =>
                              have H := HC51.out
                              clear HC51
                              by_cases c55 : (t533 != t531) = true
                              · rw [if_pos c55] at H
                                have c55b0 : (t533 != t531) = true := c55
                                (try (have c55b1 : decide (t533 = t531) = false := by simpa using c55))
                                (try (have c55b2 : (t533 == t531) = false := by simpa using c55))
                                (try (have c55b3 : ¬ (t533 = t531) := by simpa using c55))
                                clear c55
                                (first | rw [c55b0] | (simp only [i64_w, i32_w]; rw [c55b0]) | skip)
                                have H' := Aside0.mk H
                                clear H
                                go_wp2
                                repeat (go_quiet (fail); try go_wp2)
                                go_meet
                                case rel => exact ⟨_, (true), (by first | rfl | (simp; done) | (simp [*]; done)), H', ⟨by have := HJ2.out; have := HJ7.out; have := HJ25.out; have := HJ31.out; have := HJ33.out; first | omega | exact Nat.le_refl _⟩, ⟨by repeat (first | (with_reducible first | exact HB.out | apply below_alloc | apply pw_below_drewN | apply below_drew1) | exact HB.out)⟩⟩
                              · rw [if_neg c55] at H
                                have c55b0 : (t533 != t531) = false := by simpa using c55
                                (try (have c55b1 : decide (t533 = t531) = true := by simpa using c55))
                                (try (have c55b2 : (t533 == t531) = true := by simpa using c55))
                                clear c55
                                (first | rw [c55b0] | (simp only [i64_w, i32_w]; rw [c55b0]) | skip)
                                by_cases c56 : t531 = true
                                · subst c56
                                  have H1 : (laws_FnHash.j5 kj33 t527 t528 ((t532.size : Int) != t529)) = some r := by rw [if_pos rfl] at H; exact H
                                  clear H
                                  have H := H1
                                  clear H1
                                  have H' := Aside0.mk H
                                  clear H
                                  go_wp2
                                  repeat (go_quiet (fail); try go_wp2)
                                  go_meet
                                  case rel => exact ⟨_, (((t532.size : Int) != t529)), (by first | rfl | (simp; done) | (simp [*]; done)), H', ⟨by have := HJ2.out; have := HJ7.out; have := HJ25.out; have := HJ31.out; have := HJ33.out; first | omega | exact Nat.le_refl _⟩, ⟨by repeat (first | (with_reducible first | exact HB.out | apply below_alloc | apply pw_below_drewN | apply below_drew1) | exact HB.out)⟩⟩
                                · replace c56 := Bool.eq_false_iff.mpr c56
                                  subst c56
                                  have H1 : (laws_FnHash.j5 kj33 t527 t528 false) = some r := by rw [if_neg (show ¬ (false = true) by decide)] at H; exact H
                                  clear H
                                  have H := H1
                                  clear H1
                                  have H' := Aside0.mk H
                                  clear H
                                  go_wp2
                                  repeat (go_quiet (fail); try go_wp2)
                                  go_meet
                                  case rel => exact ⟨_, (false), (by first | rfl | (simp; done) | (simp [*]; done)), H', ⟨by have := HJ2.out; have := HJ7.out; have := HJ25.out; have := HJ31.out; have := HJ33.out; first | omega | exact Nat.le_refl _⟩, ⟨by repeat (first | (with_reducible first | exact HB.out | apply below_alloc | apply pw_below_drewN | apply below_drew1) | exact HB.out)⟩⟩
                            case rest =>
                              clear HC51
                              try clear c1
                              try clear c2
                              try clear p2
                              try clear c3
                              try clear c4
                              try clear c4b0
                              try clear c4b1
                              try clear c5
                              try clear p6
                              try clear c13
                              try clear c13b0
                              try clear c13b1
                              try clear c22
                              try clear c30
                              try clear c30b0
                              try clear c30b1
                              try clear c31
                              try clear c33
                              try clear c35
                              try clear c38
                              try clear c38b0
                              try clear c38b1
                              try clear c40
                              try clear c42
                              try clear c42b0
                              try clear c42b1
                              try clear c43
                              try clear c43b0
                              try clear c43b1
                              try clear c44
                              try clear c44b0
                              try clear c44b1
                              try clear c55
                              try clear c55b0
                              try clear c55b1
                              try clear c55b2
                              try clear c56
                              try clear p2
                              try clear p6
                              obtain ⟨kq, x141_50, rfl, HA, HJ50, HB⟩ := hcut
                              cases kq with
                              | zero => exact absurd HA.out (by simp [laws_FnHash.j5])
                              | succ kj50 =>
                                have H := HA.out
                                clear HA
                                simp only [laws_FnHash.j5] at H
                                by_cases c57 : x141_50 = true
                                · subst c57
                                  have H1 : (some false) = some r := by rw [if_pos rfl] at H; exact H
                                  clear H
                                  have H := H1
                                  clear H1
                                  obtain rfl := Option.some.inj H
                                  go_wp2
                                  repeat (go_quiet (fail); try go_wp2)
                                  go_ret
                                  exact ⟨by first | rfl | (simp [errW_none, errW_some] <;> rfl) | (simp [*, errW_none, errW_some] <;> rfl), by repeat (first | (with_reducible first | exact HB.out | apply below_alloc | apply pw_below_drewN | apply below_drew1) | exact HB.out)⟩
                                · replace c57 := Bool.eq_false_iff.mpr c57
                                  subst c57
                                  have H1 : ((impl_ExpandMessage.f t527 t528 24).bind fun bt534 => ((impl_HashToField.f kj50 t527 t528 2305843009213693951 1).bind fun bt536 => (if (bt534.2 != bt536.2) = true then (some false) else (if bt534.2 = true then (if (bt536.1.length : Int) = 1 then (if 0 < (bt536.1.length : Int) then ((impl_Reduce.f kj50 bt534.1 2305843009213693951).bind fun t541 => (some ((rd bt536.1 0) == t541))) else (none)) else (some false)) else (some true))))) = some r := by rw [if_neg (show ¬ (false = true) by decide)] at H; exact H
                                  clear H
                                  have H := H1
                                  clear H1
                                  replace H := Option.bind_eq_some_iff.mp H
                                  obtain ⟨⟨t534, t535⟩, A580, H⟩ := H
                                  replace H : ((impl_HashToField.f kj50 t527 t528 2305843009213693951 1).bind fun bt536 => (if (t535 != bt536.2) = true then (some false) else (if t535 = true then (if (bt536.1.length : Int) = 1 then (if 0 < (bt536.1.length : Int) then ((impl_Reduce.f kj50 t534 2305843009213693951).bind fun t541 => (some ((rd bt536.1 0) == t541))) else (none)) else (some false)) else (some true)))) = some r := H
                                  have A58 := Aside0.mk A580
                                  clear A580
                                  replace H := Option.bind_eq_some_iff.mp H
                                  obtain ⟨⟨t536, t537⟩, A590, H⟩ := H
                                  replace H : (if (t535 != t537) = true then (some false) else (if t535 = true then (if (t536.length : Int) = 1 then (if 0 < (t536.length : Int) then ((impl_Reduce.f kj50 t534 2305843009213693951).bind fun t541 => (some ((rd t536 0) == t541))) else (none)) else (some false)) else (some true))) = some r := H
                                  have A59 := Aside0.mk A590
                                  clear A590
                                  by_cases c60 : (t535 != t537) = true
                                  · rw [if_pos c60] at H
                                    have c60b0 : (t535 != t537) = true := c60
                                    (try (have c60b1 : decide (t535 = t537) = false := by simpa using c60))
                                    (try (have c60b2 : (t535 == t537) = false := by simpa using c60))
                                    (try (have c60b3 : ¬ (t535 = t537) := by simpa using c60))
                                    clear c60
                                    obtain rfl := Option.some.inj H
                                    go_wp2_with (first | (go_at_call 31; (with_reducible refine (impl_ExpandMessage.calls t527 t528 24 t534 t535 _ A58.out ?_).mono ?_); (exact Glob.of_below hG (by repeat (first | (with_reducible first | exact HB.out | apply below_alloc | apply pw_below_drewN | apply below_drew1) | exact HB.out))); rintro e w61 ⟨rfl, hb⟩; have n0_ := Aside0.mk (below_step (by repeat (first | (with_reducible first | exact HB.out | apply below_alloc | apply pw_below_drewN | apply below_drew1) | exact HB.out)) hb); clear HB; have HB := n0_; clear n0_; (try clear hb); (try clear hb2); (try clear hk); (try clear hi)) | (go_at_call 32; (with_reducible refine (impl_HashToField.calls kj50 t527 t528 2305843009213693951 1 t536 t537 _ A59.out ?_).mono ?_); (exact Glob.of_below hG (by repeat (first | (with_reducible first | exact HB.out | apply below_alloc | apply pw_below_drewN | apply below_drew1) | exact HB.out))); rintro e w62 ⟨v538, rfl, ho0, hb⟩; have n0_ := Aside0.mk (Kd.R_lower ho0 (below_size (by repeat (first | (with_reducible first | exact HB.out | apply below_alloc | apply pw_below_drewN | apply below_drew1) | exact HB.out)))); have n1_ := Aside0.mk (below_step (by repeat (first | (with_reducible first | exact HB.out | apply below_alloc | apply pw_below_drewN | apply below_drew1) | exact HB.out)) hb); clear HB; have HO539 := n0_; have HB := n1_; clear n0_ n1_; (try clear hb); (try clear hb2); (try clear hk); (try clear hi); (try clear ho0)))
                                    repeat (go_quiet (first | (go_at_call 31; (with_reducible refine (impl_ExpandMessage.calls t527 t528 24 t534 t535 _ A58.out ?_).mono ?_); (exact Glob.of_below hG (by repeat (first | (with_reducible first | exact HB.out | apply below_alloc | apply pw_below_drewN | apply below_drew1) | exact HB.out))); rintro e w61 ⟨rfl, hb⟩; have n0_ := Aside0.mk (below_step (by repeat (first | (with_reducible first | exact HB.out | apply below_alloc | apply pw_below_drewN | apply below_drew1) | exact HB.out)) hb); clear HB; have HB := n0_; clear n0_; (try clear hb); (try clear hb2); (try clear hk); (try clear hi)) | (go_at_call 32; (with_reducible refine (impl_HashToField.calls kj50 t527 t528 2305843009213693951 1 t536 t537 _ A59.out ?_).mono ?_); (exact Glob.of_below hG (by repeat (first | (with_reducible first | exact HB.out | apply below_alloc | apply pw_below_drewN | apply below_drew1) | exact HB.out))); rintro e w62 ⟨v538, rfl, ho0, hb⟩; have n0_ := Aside0.mk (Kd.R_lower ho0 (below_size (by repeat (first | (with_reducible first | exact HB.out | apply below_alloc | apply pw_below_drewN | apply below_drew1) | exact HB.out)))); have n1_ := Aside0.mk (below_step (by repeat (first | (with_reducible first | exact HB.out | apply below_alloc | apply pw_below_drewN | apply below_drew1) | exact HB.out)) hb); clear HB; have HO539 := n0_; have HB := n1_; clear n0_ n1_; (try clear hb); (try clear hb2); (try clear hk); (try clear hi); (try clear ho0))); try go_wp2_with (first | (go_at_call 31; (with_reducible refine (impl_ExpandMessage.calls t527 t528 24 t534 t535 _ A58.out ?_).mono ?_); (exact Glob.of_below hG (by repeat (first | (with_reducible first | exact HB.out | apply below_alloc | apply pw_below_drewN | apply below_drew1) | exact HB.out))); rintro e w61 ⟨rfl, hb⟩; have n0_ := Aside0.mk (below_step (by repeat (first | (with_reducible first | exact HB.out | apply below_alloc | apply pw_below_drewN | apply below_drew1) | exact HB.out)) hb); clear HB; have HB := n0_; clear n0_; (try clear hb); (try clear hb2); (try clear hk); (try clear hi)) | (go_at_call 32; (with_reducible refine (impl_HashToField.calls kj50 t527 t528 2305843009213693951 1 t536 t537 _ A59.out ?_).mono ?_); (exact Glob.of_below hG (by repeat (first | (with_reducible first | exact HB.out | apply below_alloc | apply pw_below_drewN | apply below_drew1) | exact HB.out))); rintro e w62 ⟨v538, rfl, ho0, hb⟩; have n0_ := Aside0.mk (Kd.R_lower ho0 (below_size (by repeat (first | (with_reducible first | exact HB.out | apply below_alloc | apply pw_below_drewN | apply below_drew1) | exact HB.out)))); have n1_ := Aside0.mk (below_step (by repeat (first | (with_reducible first | exact HB.out | apply below_alloc | apply pw_below_drewN | apply below_drew1) | exact HB.out)) hb); clear HB; have HO539 := n0_; have HB := n1_; clear n0_ n1_; (try clear hb); (try clear hb2); (try clear hk); (try clear hi); (try clear ho0))))
                                    go_ret
                                    exact ⟨by first | rfl | (simp [errW_none, errW_some] <;> rfl) | (simp [*, errW_none, errW_some] <;> rfl), by repeat (first | (with_reducible first | exact HB.out | apply below_alloc | apply pw_below_drewN | apply below_drew1) | exact HB.out)⟩
                                  · rw [if_neg c60] at H
                                    have c60b0 : (t535 != t537) = false := by simpa using c60
                                    (try (have c60b1 : decide (t535 = t537) = true := by simpa using c60))
                                    (try (have c60b2 : (t535 == t537) = true := by simpa using c60))
                                    clear c60
                                    by_cases c63 : t535 = true
                                    · subst c63
                                      have H1 : (if (t536.length : Int) = 1 then (if 0 < (t536.length : Int) then ((impl_Reduce.f kj50 t534 2305843009213693951).bind fun t541 => (some ((rd t536 0) == t541))) else (none)) else (some false)) = some r := by rw [if_pos rfl] at H; exact H
                                      clear H
                                      have H := H1
                                      clear H1
                                      by_cases c64 : (t536.length : Int) = 1
                                      · rw [if_pos c64] at H
                                        have c64b0 : ((t536.length : Int) == 1) = true := beq_iff_eq.mpr c64
                                        have c64b1 : ((t536.length : Int) != 1) = false := bne_eq_false_iff_eq.mpr c64
                                        clear c64
                                        by_cases c65 : 0 < (t536.length : Int)
                                        · rw [if_pos c65] at H
                                          have c65b0 : decide (0 < (t536.length : Int)) = true := decide_eq_true c65
                                          have c65b1 : decide (0 < t536.length) = true := decide_eq_true (by omega)
                                          clear c65
                                          replace H := Option.bind_eq_some_iff.mp H
                                          obtain ⟨t541, A660, H⟩ := H
                                          replace H : (some ((rd t536 0) == t541)) = some r := H
                                          have A66 := Aside0.mk A660
                                          clear A660
                                          obtain rfl := Option.some.inj H
                                          go_wp2_with (first | (go_at_call 31; (with_reducible refine (impl_ExpandMessage.calls t527 t528 24 t534 true _ A58.out ?_).mono ?_); (exact Glob.of_below hG (by repeat (first | (with_reducible first | exact HB.out | apply below_alloc | apply pw_below_drewN | apply below_drew1) | exact HB.out))); rintro e w67 ⟨rfl, hb⟩; have n0_ := Aside0.mk (below_step (by repeat (first | (with_reducible first | exact HB.out | apply below_alloc | apply pw_below_drewN | apply below_drew1) | exact HB.out)) hb); clear HB; have HB := n0_; clear n0_; (try clear hb); (try clear hb2); (try clear hk); (try clear hi)) | (go_at_call 32; (with_reducible refine (impl_HashToField.calls kj50 t527 t528 2305843009213693951 1 t536 t537 _ A59.out ?_).mono ?_); (exact Glob.of_below hG (by repeat (first | (with_reducible first | exact HB.out | apply below_alloc | apply pw_below_drewN | apply below_drew1) | exact HB.out))); rintro e w68 ⟨v538, rfl, ho0, hb⟩; have n0_ := Aside0.mk (Kd.R_lower ho0 (below_size (by repeat (first | (with_reducible first | exact HB.out | apply below_alloc | apply pw_below_drewN | apply below_drew1) | exact HB.out)))); have n1_ := Aside0.mk (below_step (by repeat (first | (with_reducible first | exact HB.out | apply below_alloc | apply pw_below_drewN | apply below_drew1) | exact HB.out)) hb); clear HB; have HO539 := n0_; have HB := n1_; clear n0_ n1_; (try clear hb); (try clear hb2); (try clear hk); (try clear hi); (try clear ho0); obtain ⟨Ao69, co69, eo69⟩ := Kd.R_slice HO539.out; subst eo69; have p540 : 0 ≤ (0 : Int) := (by omega); have q540 : 0 < (t536.length : Int) := of_decide_eq_true (by first | (with_reducible assumption) | assumption); obtain ⟨ad540, e540, hx540_0⟩ := Kd.at_int (Kd.R_reads' HO539.out).2.2 0 p540 q540; cases e540; have qi540 : (0 < t536.length) = True := eq_true (by omega); (try rw [show ((0 : Int)).toNat = 0 from rfl] at hx540_0); (try rw [Addr.add_zero'] at hx540_0); replace p540 := eq_true p540; replace q540 := eq_true q540) | (go_at_call 33; (with_reducible refine (impl_Reduce.calls kj50 t534 2305843009213693951 t541 _ A66.out).mono ?_); rintro e w' ⟨rfl, ⟨nd, rfl⟩⟩; (try first | exact ⟨rfl, _, World.drewN_drewN _ _ _⟩ | exact ⟨rfl, _, Eq.trans (World.drewN_drewN _ _ _) (congrArg (World.drewN _) (Nat.add_assoc _ _ _))⟩)))
                                          repeat (go_quiet (first | (go_at_call 31; (with_reducible refine (impl_ExpandMessage.calls t527 t528 24 t534 true _ A58.out ?_).mono ?_); (exact Glob.of_below hG (by repeat (first | (with_reducible first | exact HB.out | apply below_alloc | apply pw_below_drewN | apply below_drew1) | exact HB.out))); rintro e w67 ⟨rfl, hb⟩; have n0_ := Aside0.mk (below_step (by repeat (first | (with_reducible first | exact HB.out | apply below_alloc | apply pw_below_drewN | apply below_drew1) | exact HB.out)) hb); clear HB; have HB := n0_; clear n0_; (try clear hb); (try clear hb2); (try clear hk); (try clear hi)) | (go_at_call 32; (with_reducible refine (impl_HashToField.calls kj50 t527 t528 2305843009213693951 1 t536 t537 _ A59.out ?_).mono ?_); (exact Glob.of_below hG (by repeat (first | (with_reducible first | exact HB.out | apply below_alloc | apply pw_below_drewN | apply below_drew1) | exact HB.out))); rintro e w68 ⟨v538, rfl, ho0, hb⟩; have n0_ := Aside0.mk (Kd.R_lower ho0 (below_size (by repeat (first | (with_reducible first | exact HB.out | apply below_alloc | apply pw_below_drewN | apply below_drew1) | exact HB.out)))); have n1_ := Aside0.mk (below_step (by repeat (first | (with_reducible first | exact HB.out | apply below_alloc | apply pw_below_drewN | apply below_drew1) | exact HB.out)) hb); clear HB; have HO539 := n0_; have HB := n1_; clear n0_ n1_; (try clear hb); (try clear hb2); (try clear hk); (try clear hi); (try clear ho0); obtain ⟨Ao69, co69, eo69⟩ := Kd.R_slice HO539.out; subst eo69; have p540 : 0 ≤ (0 : Int) := (by omega); have q540 : 0 < (t536.length : Int) := of_decide_eq_true (by first | (with_reducible assumption) | assumption); obtain ⟨ad540, e540, hx540_0⟩ := Kd.at_int (Kd.R_reads' HO539.out).2.2 0 p540 q540; cases e540; have qi540 : (0 < t536.length) = True := eq_true (by omega); (try rw [show ((0 : Int)).toNat = 0 from rfl] at hx540_0); (try rw [Addr.add_zero'] at hx540_0); replace p540 := eq_true p540; replace q540 := eq_true q540) | (go_at_call 33; (with_reducible refine (impl_Reduce.calls kj50 t534 2305843009213693951 t541 _ A66.out).mono ?_); rintro e w' ⟨rfl, ⟨nd, rfl⟩⟩; (try first | exact ⟨rfl, _, World.drewN_drewN _ _ _⟩ | exact ⟨rfl, _, Eq.trans (World.drewN_drewN _ _ _) (congrArg (World.drewN _) (Nat.add_assoc _ _ _))⟩))); try go_wp2_with (first | (go_at_call 31; (with_reducible refine (impl_ExpandMessage.calls t527 t528 24 t534 true _ A58.out ?_).mono ?_); (exact Glob.of_below hG (by repeat (first | (with_reducible first | exact HB.out | apply below_alloc | apply pw_below_drewN | apply below_drew1) | exact HB.out))); rintro e w67 ⟨rfl, hb⟩; have n0_ := Aside0.mk (below_step (by repeat (first | (with_reducible first | exact HB.out | apply below_alloc | apply pw_below_drewN | apply below_drew1) | exact HB.out)) hb); clear HB; have HB := n0_; clear n0_; (try clear hb); (try clear hb2); (try clear hk); (try clear hi)) | (go_at_call 32; (with_reducible refine (impl_HashToField.calls kj50 t527 t528 2305843009213693951 1 t536 t537 _ A59.out ?_).mono ?_); (exact Glob.of_below hG (by repeat (first | (with_reducible first | exact HB.out | apply below_alloc | apply pw_below_drewN | apply below_drew1) | exact HB.out))); rintro e w68 ⟨v538, rfl, ho0, hb⟩; have n0_ := Aside0.mk (Kd.R_lower ho0 (below_size (by repeat (first | (with_reducible first | exact HB.out | apply below_alloc | apply pw_below_drewN | apply below_drew1) | exact HB.out)))); have n1_ := Aside0.mk (below_step (by repeat (first | (with_reducible first | exact HB.out | apply below_alloc | apply pw_below_drewN | apply below_drew1) | exact HB.out)) hb); clear HB; have HO539 := n0_; have HB := n1_; clear n0_ n1_; (try clear hb); (try clear hb2); (try clear hk); (try clear hi); (try clear ho0); obtain ⟨Ao69, co69, eo69⟩ := Kd.R_slice HO539.out; subst eo69; have p540 : 0 ≤ (0 : Int) := (by omega); have q540 : 0 < (t536.length : Int) := of_decide_eq_true (by first | (with_reducible assumption) | assumption); obtain ⟨ad540, e540, hx540_0⟩ := Kd.at_int (Kd.R_reads' HO539.out).2.2 0 p540 q540; cases e540; have qi540 : (0 < t536.length) = True := eq_true (by omega); (try rw [show ((0 : Int)).toNat = 0 from rfl] at hx540_0); (try rw [Addr.add_zero'] at hx540_0); replace p540 := eq_true p540; replace q540 := eq_true q540) | (go_at_call 33; (with_reducible refine (impl_Reduce.calls kj50 t534 2305843009213693951 t541 _ A66.out).mono ?_); rintro e w' ⟨rfl, ⟨nd, rfl⟩⟩; (try first | exact ⟨rfl, _, World.drewN_drewN _ _ _⟩ | exact ⟨rfl, _, Eq.trans (World.drewN_drewN _ _ _) (congrArg (World.drewN _) (Nat.add_assoc _ _ _))⟩))))
                                          go_ret
                                          exact ⟨by first | rfl | (simp [errW_none, errW_some] <;> rfl) | (simp [*, errW_none, errW_some] <;> rfl), by repeat (first | (with_reducible first | exact HB.out | apply below_alloc | apply pw_below_drewN | apply below_drew1) | exact HB.out)⟩
                                        · rw [if_neg c65] at H
                                          exact absurd H (by simp)
                                      · rw [if_neg c64] at H
                                        have c64b0 : ((t536.length : Int) == 1) = false := beq_eq_false_iff_ne.mpr c64
                                        have c64b1 : ((t536.length : Int) != 1) = true := bne_iff_ne.mpr c64
                                        obtain rfl := Option.some.inj H
                                        go_wp2_with (first | (go_at_call 31; (with_reducible refine (impl_ExpandMessage.calls t527 t528 24 t534 true _ A58.out ?_).mono ?_); (exact Glob.of_below hG (by repeat (first | (with_reducible first | exact HB.out | apply below_alloc | apply pw_below_drewN | apply below_drew1) | exact HB.out))); rintro e w70 ⟨rfl, hb⟩; have n0_ := Aside0.mk (below_step (by repeat (first | (with_reducible first | exact HB.out | apply below_alloc | apply pw_below_drewN | apply below_drew1) | exact HB.out)) hb); clear HB; have HB := n0_; clear n0_; (try clear hb); (try clear hb2); (try clear hk); (try clear hi)) | (go_at_call 32; (with_reducible refine (impl_HashToField.calls kj50 t527 t528 2305843009213693951 1 t536 t537 _ A59.out ?_).mono ?_); (exact Glob.of_below hG (by repeat (first | (with_reducible first | exact HB.out | apply below_alloc | apply pw_below_drewN | apply below_drew1) | exact HB.out))); rintro e w71 ⟨v538, rfl, ho0, hb⟩; have n0_ := Aside0.mk (Kd.R_lower ho0 (below_size (by repeat (first | (with_reducible first | exact HB.out | apply below_alloc | apply pw_below_drewN | apply below_drew1) | exact HB.out)))); have n1_ := Aside0.mk (below_step (by repeat (first | (with_reducible first | exact HB.out | apply below_alloc | apply pw_below_drewN | apply below_drew1) | exact HB.out)) hb); clear HB; have HO539 := n0_; have HB := n1_; clear n0_ n1_; (try clear hb); (try clear hb2); (try clear hk); (try clear hi); (try clear ho0); obtain ⟨Ao72, co72, eo72⟩ := Kd.R_slice HO539.out; subst eo72))
                                        repeat (go_quiet (first | (go_at_call 31; (with_reducible refine (impl_ExpandMessage.calls t527 t528 24 t534 true _ A58.out ?_).mono ?_); (exact Glob.of_below hG (by repeat (first | (with_reducible first | exact HB.out | apply below_alloc | apply pw_below_drewN | apply below_drew1) | exact HB.out))); rintro e w70 ⟨rfl, hb⟩; have n0_ := Aside0.mk (below_step (by repeat (first | (with_reducible first | exact HB.out | apply below_alloc | apply pw_below_drewN | apply below_drew1) | exact HB.out)) hb); clear HB; have HB := n0_; clear n0_; (try clear hb); (try clear hb2); (try clear hk); (try clear hi)) | (go_at_call 32; (with_reducible refine (impl_HashToField.calls kj50 t527 t528 2305843009213693951 1 t536 t537 _ A59.out ?_).mono ?_); (exact Glob.of_below hG (by repeat (first | (with_reducible first | exact HB.out | apply below_alloc | apply pw_below_drewN | apply below_drew1) | exact HB.out))); rintro e w71 ⟨v538, rfl, ho0, hb⟩; have n0_ := Aside0.mk (Kd.R_lower ho0 (below_size (by repeat (first | (with_reducible first | exact HB.out | apply below_alloc | apply pw_below_drewN | apply below_drew1) | exact HB.out)))); have n1_ := Aside0.mk (below_step (by repeat (first | (with_reducible first | exact HB.out | apply below_alloc | apply pw_below_drewN | apply below_drew1) | exact HB.out)) hb); clear HB; have HO539 := n0_; have HB := n1_; clear n0_ n1_; (try clear hb); (try clear hb2); (try clear hk); (try clear hi); (try clear ho0); obtain ⟨Ao72, co72, eo72⟩ := Kd.R_slice HO539.out; subst eo72)); try go_wp2_with (first | (go_at_call 31; (with_reducible refine (impl_ExpandMessage.calls t527 t528 24 t534 true _ A58.out ?_).mono ?_); (exact Glob.of_below hG (by repeat (first | (with_reducible first | exact HB.out | apply below_alloc | apply pw_below_drewN | apply below_drew1) | exact HB.out))); rintro e w70 ⟨rfl, hb⟩; have n0_ := Aside0.mk (below_step (by repeat (first | (with_reducible first | exact HB.out | apply below_alloc | apply pw_below_drewN | apply below_drew1) | exact HB.out)) hb); clear HB; have HB := n0_; clear n0_; (try clear hb); (try clear hb2); (try clear hk); (try clear hi)) | (go_at_call 32; (with_reducible refine (impl_HashToField.calls kj50 t527 t528 2305843009213693951 1 t536 t537 _ A59.out ?_).mono ?_); (exact Glob.of_below hG (by repeat (first | (with_reducible first | exact HB.out | apply below_alloc | apply pw_below_drewN | apply below_drew1) | exact HB.out))); rintro e w71 ⟨v538, rfl, ho0, hb⟩; have n0_ := Aside0.mk (Kd.R_lower ho0 (below_size (by repeat (first | (with_reducible first | exact HB.out | apply below_alloc | apply pw_below_drewN | apply below_drew1) | exact HB.out)))); have n1_ := Aside0.mk (below_step (by repeat (first | (with_reducible first | exact HB.out | apply below_alloc | apply pw_below_drewN | apply below_drew1) | exact HB.out)) hb); clear HB; have HO539 := n0_; have HB := n1_; clear n0_ n1_; (try clear hb); (try clear hb2); (try clear hk); (try clear hi); (try clear ho0); obtain ⟨Ao72, co72, eo72⟩ := Kd.R_slice HO539.out; subst eo72)))
                                        go_ret
                                        exact ⟨by first | rfl | (simp [errW_none, errW_some] <;> rfl) | (simp [*, errW_none, errW_some] <;> rfl), by repeat (first | (with_reducible first | exact HB.out | apply below_alloc | apply pw_below_drewN | apply below_drew1) | exact HB.out)⟩
                                    · replace c63 := Bool.eq_false_iff.mpr c63
                                      subst c63
                                      have H1 : (some true) = some r := by rw [if_neg (show ¬ (false = true) by decide)] at H; exact H
                                      clear H
                                      have H := H1
                                      clear H1
                                      obtain rfl := Option.some.inj H
                                      go_wp2_with (first | (go_at_call 31; (with_reducible refine (impl_ExpandMessage.calls t527 t528 24 t534 false _ A58.out ?_).mono ?_); (exact Glob.of_below hG (by repeat (first | (with_reducible first | exact HB.out | apply below_alloc | apply pw_below_drewN | apply below_drew1) | exact HB.out))); rintro e w73 ⟨rfl, hb⟩; have n0_ := Aside0.mk (below_step (by repeat (first | (with_reducible first | exact HB.out | apply below_alloc | apply pw_below_drewN | apply below_drew1) | exact HB.out)) hb); clear HB; have HB := n0_; clear n0_; (try clear hb); (try clear hb2); (try clear hk); (try clear hi)) | (go_at_call 32; (with_reducible refine (impl_HashToField.calls kj50 t527 t528 2305843009213693951 1 t536 t537 _ A59.out ?_).mono ?_); (exact Glob.of_below hG (by repeat (first | (with_reducible first | exact HB.out | apply below_alloc | apply pw_below_drewN | apply below_drew1) | exact HB.out))); rintro e w74 ⟨v538, rfl, ho0, hb⟩; have n0_ := Aside0.mk (Kd.R_lower ho0 (below_size (by repeat (first | (with_reducible first | exact HB.out | apply below_alloc | apply pw_below_drewN | apply below_drew1) | exact HB.out)))); have n1_ := Aside0.mk (below_step (by repeat (first | (with_reducible first | exact HB.out | apply below_alloc | apply pw_below_drewN | apply below_drew1) | exact HB.out)) hb); clear HB; have HO539 := n0_; have HB := n1_; clear n0_ n1_; (try clear hb); (try clear hb2); (try clear hk); (try clear hi); (try clear ho0)))
                                      repeat (go_quiet (first | (go_at_call 31; (with_reducible refine (impl_ExpandMessage.calls t527 t528 24 t534 false _ A58.out ?_).mono ?_); (exact Glob.of_below hG (by repeat (first | (with_reducible first | exact HB.out | apply below_alloc | apply pw_below_drewN | apply below_drew1) | exact HB.out))); rintro e w73 ⟨rfl, hb⟩; have n0_ := Aside0.mk (below_step (by repeat (first | (with_reducible first | exact HB.out | apply below_alloc | apply pw_below_drewN | apply below_drew1) | exact HB.out)) hb); clear HB; have HB := n0_; clear n0_; (try clear hb); (try clear hb2); (try clear hk); (try clear hi)) | (go_at_call 32; (with_reducible refine (impl_HashToField.calls kj50 t527 t528 2305843009213693951 1 t536 t537 _ A59.out ?_).mono ?_); (exact Glob.of_below hG (by repeat (first | (with_reducible first | exact HB.out | apply below_alloc | apply pw_below_drewN | apply below_drew1) | exact HB.out))); rintro e w74 ⟨v538, rfl, ho0, hb⟩; have n0_ := Aside0.mk (Kd.R_lower ho0 (below_size (by repeat (first | (with_reducible first | exact HB.out | apply below_alloc | apply pw_below_drewN | apply below_drew1) | exact HB.out)))); have n1_ := Aside0.mk (below_step (by repeat (first | (with_reducible first | exact HB.out | apply below_alloc | apply pw_below_drewN | apply below_drew1) | exact HB.out)) hb); clear HB; have HO539 := n0_; have HB := n1_; clear n0_ n1_; (try clear hb); (try clear hb2); (try clear hk); (try clear hi); (try clear ho0))); try go_wp2_with (first | (go_at_call 31; (with_reducible refine (impl_ExpandMessage.calls t527 t528 24 t534 false _ A58.out ?_).mono ?_); (exact Glob.of_below hG (by repeat (first | (with_reducible first | exact HB.out | apply below_alloc | apply pw_below_drewN | apply below_drew1) | exact HB.out))); rintro e w73 ⟨rfl, hb⟩; have n0_ := Aside0.mk (below_step (by repeat (first | (with_reducible first | exact HB.out | apply below_alloc | apply pw_below_drewN | apply below_drew1) | exact HB.out)) hb); clear HB; have HB := n0_; clear n0_; (try clear hb); (try clear hb2); (try clear hk); (try clear hi)) | (go_at_call 32; (with_reducible refine (impl_HashToField.calls kj50 t527 t528 2305843009213693951 1 t536 t537 _ A59.out ?_).mono ?_); (exact Glob.of_below hG (by repeat (first | (with_reducible first | exact HB.out | apply below_alloc | apply pw_below_drewN | apply below_drew1) | exact HB.out))); rintro e w74 ⟨v538, rfl, ho0, hb⟩; have n0_ := Aside0.mk (Kd.R_lower ho0 (below_size (by repeat (first | (with_reducible first | exact HB.out | apply below_alloc | apply pw_below_drewN | apply below_drew1) | exact HB.out)))); have n1_ := Aside0.mk (below_step (by repeat (first | (with_reducible first | exact HB.out | apply below_alloc | apply pw_below_drewN | apply below_drew1) | exact HB.out)) hb); clear HB; have HO539 := n0_; have HB := n1_; clear n0_ n1_; (try clear hb); (try clear hb2); (try clear hk); (try clear hi); (try clear ho0))))
                                      go_ret
                                      exact ⟨by first | rfl | (simp [errW_none, errW_some] <;> rfl) | (simp [*, errW_none, errW_some] <;> rfl), by repeat (first | (with_reducible first | exact HB.out | apply below_alloc | apply pw_below_drewN | apply below_drew1) | exact HB.out)⟩

def laws_FnHash.Pure : Prop := ∀ (l0 : List Int) (l1 : List Int), l0.length ≤ maxLen → l0.length * 1 ≤ 140737488351232 → (∀ x ∈ l0, (Lit.int .u8 x).wf = true) → l1.length ≤ maxLen → l1.length * 1 ≤ 140737488351232 → (∀ x ∈ l1, (Lit.int .u8 x).wf = true) → ∃ k, laws_FnHash.f k l0 l1 = some true
theorem laws_FnHash.walk (P : laws_FnHash.Pure) (a0 : Option Addr) (len0 cap0 : Nat) (z0 : List Int) (a1 : Option Addr) (len1 cap1 : Nat) (z1 : List Int) (w : World) (w0 : (a0 = none ∧ len0 = 0 ∧ cap0 = 0 ∧ z0 = []) ∨ ∃ x, a0 = some x ∧ len0 ≤ cap0 ∧ cap0 ≤ maxLen ∧ z0.length = cap0 ∧ (∀ i, i < z0.length → w.cell? (x.add i) = some (.int .u8 (z0.getD i 0))) ∧ ∀ n ∈ z0, (Lit.int .u8 n).wf = true) (y0 : len0 * 1 ≤ 140737488351232) (w1 : (a1 = none ∧ len1 = 0 ∧ cap1 = 0 ∧ z1 = []) ∨ ∃ x, a1 = some x ∧ len1 ≤ cap1 ∧ cap1 ≤ maxLen ∧ z1.length = cap1 ∧ (∀ i, i < z1.length → w.cell? (x.add i) = some (.int .u8 (z1.getD i 0))) ∧ ∀ n ∈ z1, (Lit.int .u8 n).wf = true) (y1 : len1 * 1 ≤ 140737488351232) (hG : Glob w) :
    Calls Tryd.prog 5 #[.slice a0 len0 cap0, .slice a1 len1 cap1] w fun e w' => e = .returned (.bool true) ∧ Below w.heap.size w w' := by
  obtain ⟨l0, rfl, hr0, hm0, hw0, hc0⟩ := ReadsInt.ofRowC w0
  obtain ⟨l1, rfl, hr1, hm1, hw1, hc1⟩ := ReadsInt.ofRowC w1
  obtain ⟨k, h⟩ := P l0 l1 hm0 y0 hw0 hm1 y1 hw1
  refine (laws_FnHash.calls k _ _ l0 _ _ l1 true w (Kd.C_of_reads (d := (0 : Int)) (h1 := fun _ => rfl) hr0) hc0 (Kd.C_of_reads (d := (0 : Int)) (h1 := fun _ => rfl) hr1) hc1 h hG).mono ?_
  rintro e w' ⟨rfl, hd⟩
  exact ⟨rfl, hd⟩

end Go.Proofs.YtfonhiakelmhhaaDoor.P
end
section
namespace Go.Proofs.YtfonhiakelmhhaaDoor.P
open Go.RowKit Go.Proofs.YtfonhiakelmhhaaDoorW.PrintWords Go.Proofs.YtfonhiakelmhhaaDoorW.PrintLast Go.Proofs.YtfonhiakelmhhaaDoorW.PrintMore
set_option linter.unusedVariables false
set_option linter.unusedSimpArgs false

theorem spTurn (x : Int) (n : Nat) (h1 : 1 ≤ n) (h2 : n ≤ 31) : spec_l1Turn.f x (n : Int) = some (rotr n x) := by
  have e1 : IntKind.u64.wrap (n : Int) = (n : Int) := by rw [IntKind.wrap_u64]; omega
  have e2 : IntKind.u64.wrap (wrap64 (32 - (n : Int))) = ((32 - n : Nat) : Int) := by unfold wrap64; rw [IntKind.wrap_u64]; omega
  unfold spec_l1Turn.f
  rw [e1, e2, if_pos (by omega), if_pos (by omega)]
  unfold shr shl rotr
  simp only [Int.toNat_natCast]
  rw [show min n IntKind.u32.bits = n from Nat.min_eq_left (by show n ≤ 32; omega), show min (32 - n) IntKind.u32.bits = 32 - n from Nat.min_eq_left (by show 32 - n ≤ 32; omega), IntKind.wrap_u32]
theorem rd_nat (l : List Int) (i : Int) (n : Nat) (h : i = (n : Int)) : rd l i = l.getD n 0 := by rw [h, rd, Int.toNat_natCast]
theorem blk_getD (x : List Int) (p i : Nat) (hi : i < 64) : ((x.drop p).take 64).getD i 0 = x.getD (p + i) 0 := by
  simp only [List.getD_eq_getElem?_getD, List.getElem?_take, List.getElem?_drop, if_pos hi]

theorem spSched0 (x : List Int) (p : Nat) (hx : Bytes x) (hp : p + 64 ≤ x.length) (hl : x.length ≤ 140737488355328) (k n : Nat) (hn : n < 16) :
    spec_l1Schedule.l0 (k + 1) x (p : Int) (wList ((x.drop p).take 64) n) (n : Int) = spec_l1Schedule.l0 k x (p : Int) (wList ((x.drop p).take 64) (n + 1)) ((n + 1 : Nat) : Int) := by
  have b0 := hx.getD (p + 4 * n)
  have b1 := hx.getD (p + 4 * n + 1)
  have b2 := hx.getD (p + 4 * n + 2)
  have b3 := hx.getD (p + 4 * n + 3)
  have i0 : wrap64 ((p : Int) + wrap64 (4 * (n : Int))) = ((p + 4 * n : Nat) : Int) := by unfold wrap64; omega
  have i1 : wrap64 (((p + 4 * n : Nat) : Int) + 1) = ((p + 4 * n + 1 : Nat) : Int) := by unfold wrap64; omega
  have i2 : wrap64 (((p + 4 * n : Nat) : Int) + 2) = ((p + 4 * n + 2 : Nat) : Int) := by unfold wrap64; omega
  have i3 : wrap64 (((p + 4 * n : Nat) : Int) + 3) = ((p + 4 * n + 3 : Nat) : Int) := by unfold wrap64; omega
  have i4 : wrap64 ((n : Int) + 1) = ((n + 1 : Nat) : Int) := by unfold wrap64; omega
  have c0 : (n : Int) < 16 := by clear b0 b1 b2 b3 i0 i1 i2 i3 i4; omega
  have c1 : ((p + 4 * n : Nat) : Int) < (x.length : Int) := by clear b0 b1 b2 b3 i0 i1 i2 i3 i4; omega
  have c2 : ((p + 4 * n + 1 : Nat) : Int) < (x.length : Int) := by clear b0 b1 b2 b3 i0 i1 i2 i3 i4; omega
  have c3 : ((p + 4 * n + 2 : Nat) : Int) < (x.length : Int) := by clear b0 b1 b2 b3 i0 i1 i2 i3 i4; omega
  have c4 : ((p + 4 * n + 3 : Nat) : Int) < (x.length : Int) := by clear b0 b1 b2 b3 i0 i1 i2 i3 i4; omega
  have c5 : (wList ((x.drop p).take 64) n).length < 35184372088832 := by rw [wList_length]; clear b0 b1 b2 b3 i0 i1 i2 i3 i4; omega
  rw [spec_l1Schedule.l0, if_pos c0, i0, i1, i2, i3, i4]
  rw [if_pos (Int.natCast_nonneg _), if_pos c1, if_pos (Int.natCast_nonneg _), if_pos c2, if_pos (Int.natCast_nonneg _), if_pos c3, if_pos (Int.natCast_nonneg _), if_pos c4, if_pos c5]
  clear c0 c1 c2 c3 c4 c5 i0 i1 i2 i3 i4
  rw [rd_nat x _ _ rfl, rd_nat x _ _ rfl, rd_nat x _ _ rfl, rd_nat x _ _ rfl]
  congr 1
  rw [wList, if_pos hn, be4, blk_getD _ _ _ (by omega), blk_getD _ _ _ (by omega), blk_getD _ _ _ (by omega), blk_getD _ _ _ (by omega)]
  simp only [← Nat.add_assoc]
  generalize x.getD (p + 4 * n) 0 = y0 at b0 ⊢
  generalize x.getD (p + 4 * n + 1) 0 = y1 at b1 ⊢
  generalize x.getD (p + 4 * n + 2) 0 = y2 at b2 ⊢
  generalize x.getD (p + 4 * n + 3) 0 = y3 at b3 ⊢
  rw [show y0 % 4294967296 * 16777216 % 4294967296 = y0 * 16777216 by omega, show y1 % 4294967296 * 65536 % 4294967296 = y1 * 65536 by omega, show y2 % 4294967296 * 256 % 4294967296 = y2 * 256 by omega, show y3 % 4294967296 = y3 by omega]
theorem spSched1 (blk : List Int) (k n : Nat) (h16 : 16 ≤ n) (hn : n < 64) :
    spec_l1Schedule.l1 (k + 1) (wList blk n) (n : Int) = spec_l1Schedule.l1 k (wList blk (n + 1)) ((n + 1 : Nat) : Int) := by
  have i0 : wrap64 ((n : Int) - 15) = ((n - 15 : Nat) : Int) := by unfold wrap64; omega
  have i1 : wrap64 ((n : Int) - 2) = ((n - 2 : Nat) : Int) := by unfold wrap64; omega
  have i2 : wrap64 ((n : Int) - 16) = ((n - 16 : Nat) : Int) := by unfold wrap64; omega
  have i3 : wrap64 ((n : Int) - 7) = ((n - 7 : Nat) : Int) := by unfold wrap64; omega
  have i4 : wrap64 ((n : Int) + 1) = ((n + 1 : Nat) : Int) := by unfold wrap64; omega
  have hl := wList_length blk n
  rw [spec_l1Schedule.l1, if_pos (by omega), i0, i1, i2, i3, i4]
  rw [if_pos (by omega), if_pos (by omega), if_pos (by omega), if_pos (by omega)]
  rw [rd_nat _ _ _ rfl, rd_nat _ _ _ rfl, rd_nat _ _ _ rfl, rd_nat _ _ _ rfl]
  rw [show (7 : Int) = ((7 : Nat) : Int) from rfl, spTurn _ 7 (by omega) (by omega), show (18 : Int) = ((18 : Nat) : Int) from rfl, spTurn _ 18 (by omega) (by omega), show (17 : Int) = ((17 : Nat) : Int) from rfl, spTurn _ 17 (by omega) (by omega), show (19 : Int) = ((19 : Nat) : Int) from rfl, spTurn _ 19 (by omega) (by omega)]
  simp only [Option.bind_some]
  rw [if_pos (by omega), if_pos (by omega), if_pos (by omega), if_pos (by omega), if_pos (by omega)]
  congr 1
  rw [wList, if_neg (by omega), nextW, sg0, sg1]
  congr 2
  generalize Go.bits .xor .u32 (Go.bits .xor .u32 (rotr 7 ((wList blk n).getD (n - 15) 0)) (rotr 18 ((wList blk n).getD (n - 15) 0))) ((wList blk n).getD (n - 15) 0 / 8) = s0
  generalize Go.bits .xor .u32 (Go.bits .xor .u32 (rotr 17 ((wList blk n).getD (n - 2) 0)) (rotr 19 ((wList blk n).getD (n - 2) 0))) ((wList blk n).getD (n - 2) 0 / 1024) = s1
  generalize (wList blk n).getD (n - 16) 0 = a
  generalize (wList blk n).getD (n - 7) 0 = b
  omega
theorem spSched (x : List Int) (p : Nat) (hx : Bytes x) (hp : p + 64 ≤ x.length) (hl : x.length ≤ 140737488355328) (k : Nat) (hk : 66 ≤ k) :
    spec_l1Schedule.f k x (p : Int) = some (wList ((x.drop p).take 64) 64) := by
  have a0 : ∀ d n k, n + d = 16 → d + 50 ≤ k → spec_l1Schedule.l0 k x (p : Int) (wList ((x.drop p).take 64) n) (n : Int) = spec_l1Schedule.l1 (k - d - 1) (wList ((x.drop p).take 64) 16) 16 := by
    intro d
    induction d with
    | zero =>
      intro n k hn hk
      obtain rfl : n = 16 := by omega
      obtain ⟨k, rfl⟩ : ∃ j, k = j + 1 := ⟨k - 1, by omega⟩
      rw [spec_l1Schedule.l0, if_neg (by omega)]
      rfl
    | succ d ih =>
      intro n k hn hk
      obtain ⟨k, rfl⟩ : ∃ j, k = j + 1 := ⟨k - 1, by omega⟩
      rw [spSched0 x p hx hp hl k n (by omega), ih (n + 1) k (by omega) (by omega)]
      congr 1
      omega
  have a1 : ∀ d n k, n + d = 64 → 16 ≤ n → d + 1 ≤ k → spec_l1Schedule.l1 k (wList ((x.drop p).take 64) n) (n : Int) = some (wList ((x.drop p).take 64) 64) := by
    intro d
    induction d with
    | zero =>
      intro n k hn _ hk
      obtain rfl : n = 64 := by omega
      obtain ⟨k, rfl⟩ : ∃ j, k = j + 1 := ⟨k - 1, by omega⟩
      rw [spec_l1Schedule.l1, if_neg (by omega)]
    | succ d ih =>
      intro n k hn h16 hk
      obtain ⟨k, rfl⟩ : ∃ j, k = j + 1 := ⟨k - 1, by omega⟩
      rw [spSched1 _ k n h16 (by omega), ih (n + 1) k (by omega) (by omega) (by omega)]
  unfold spec_l1Schedule.f
  have e0 := a0 16 0 k (by omega) (by omega)
  have e1 := a1 48 16 (k - 16 - 1) (by omega) (by omega) (by omega)
  exact e0.trans e1
theorem spStep (x0 ks ws : List Int) (s : S8) (k n : Nat) (hn : n < 64) (h1 : ks.length = 64) (h2 : ws.length = 64) :
    spec_l1Block.l0 (k + 1) x0 ks ws s.a s.b s.c s.d s.e s.f s.g s.h (n : Int) =
      spec_l1Block.l0 k x0 ks ws (step8 s (ks.getD n 0) (ws.getD n 0)).a (step8 s (ks.getD n 0) (ws.getD n 0)).b (step8 s (ks.getD n 0) (ws.getD n 0)).c (step8 s (ks.getD n 0) (ws.getD n 0)).d (step8 s (ks.getD n 0) (ws.getD n 0)).e (step8 s (ks.getD n 0) (ws.getD n 0)).f (step8 s (ks.getD n 0) (ws.getD n 0)).g (step8 s (ks.getD n 0) (ws.getD n 0)).h ((n + 1 : Nat) : Int) := by
  have i4 : wrap64 ((n : Int) + 1) = ((n + 1 : Nat) : Int) := by unfold wrap64; omega
  have c0 : (n : Int) < 64 := by omega
  have c1 : (n : Int) < (ks.length : Int) := by omega
  have c2 : (n : Int) < (ws.length : Int) := by omega
  rw [spec_l1Block.l0, if_pos c0, i4]
  rw [show (6 : Int) = ((6 : Nat) : Int) from rfl, spTurn _ 6 (by omega) (by omega), show (11 : Int) = ((11 : Nat) : Int) from rfl, spTurn _ 11 (by omega) (by omega), show (25 : Int) = ((25 : Nat) : Int) from rfl, spTurn _ 25 (by omega) (by omega),
    show (2 : Int) = ((2 : Nat) : Int) from rfl, spTurn _ 2 (by omega) (by omega), show (13 : Int) = ((13 : Nat) : Int) from rfl, spTurn _ 13 (by omega) (by omega), show (22 : Int) = ((22 : Nat) : Int) from rfl, spTurn _ 22 (by omega) (by omega)]
  simp only [Option.bind_some]
  rw [if_pos (Int.natCast_nonneg _), if_pos c1, if_pos c2, rd_nat _ _ _ rfl, rd_nat _ _ _ rfl]
  clear c0 c1 c2 i4
  show spec_l1Block.l0 k x0 ks ws _ s.a s.b s.c _ s.e s.f s.g _ = spec_l1Block.l0 k x0 ks ws _ s.a s.b s.c _ s.e s.f s.g _
  have e1 : ∀ h b c k w u : Int, (((((h + b) % 4294967296 + c) % 4294967296 + k) % 4294967296 + w) % 4294967296 + u % 4294967296) % 4294967296 = (h + b + c + k + w + u) % 4294967296 := by intros; omega
  have e2 : ∀ d h b c k w : Int, (d + ((((h + b) % 4294967296 + c) % 4294967296 + k) % 4294967296 + w) % 4294967296) % 4294967296 = (d + (h + b + c + k + w)) % 4294967296 := by intros; omega
  rw [e1, e2]
  rfl
theorem spRounds (x0 ks ws : List Int) (s0 : S8) (h1 : ks.length = 64) (h2 : ws.length = 64) : ∀ d n k, n + d = 64 → d + 1 ≤ k →
    spec_l1Block.l0 k x0 ks ws (rounds8 ks ws n s0).a (rounds8 ks ws n s0).b (rounds8 ks ws n s0).c (rounds8 ks ws n s0).d (rounds8 ks ws n s0).e (rounds8 ks ws n s0).f (rounds8 ks ws n s0).g (rounds8 ks ws n s0).h (n : Int) =
    spec_l1Block.l0 (k - d) x0 ks ws (rounds8 ks ws 64 s0).a (rounds8 ks ws 64 s0).b (rounds8 ks ws 64 s0).c (rounds8 ks ws 64 s0).d (rounds8 ks ws 64 s0).e (rounds8 ks ws 64 s0).f (rounds8 ks ws 64 s0).g (rounds8 ks ws 64 s0).h 64 := by
  intro d
  induction d with
  | zero =>
    intro n k hn hk
    obtain rfl : n = 64 := by omega
    rfl
  | succ d ih =>
    intro n k hn hk
    obtain ⟨k, rfl⟩ : ∃ j, k = j + 1 := ⟨k - 1, by omega⟩
    rw [spStep x0 ks ws (rounds8 ks ws n s0) k n (by omega) h1 h2]
    have e := ih (n + 1) k (by omega) (by omega)
    rw [show k + 1 - (d + 1) = k - d by omega]
    exact e
theorem spBlock (s0 : S8) (x ks : List Int) (p : Nat) (hk : ks.length = 64) (hx : Bytes x) (hp : p + 64 ≤ x.length) (hl : x.length ≤ 140737488355328) (k : Nat) (hk2 : 66 ≤ k) :
    spec_l1Block.f k s0.list ks x (p : Int) = some (compress8 ks s0 ((x.drop p).take 64)).list := by
  unfold spec_l1Block.f
  rw [spSched x p hx hp hl k hk2]
  have e := spRounds s0.list ks (wList ((x.drop p).take 64) 64) s0 hk (wList_length _ _) 64 0 k (by omega) (by omega)
  obtain ⟨j, hj⟩ : ∃ j, k - 64 = j + 1 := ⟨k - 64 - 1, by omega⟩
  rw [hj] at e
  exact e.trans rfl
theorem spOut (s : S8) (k : Nat) (hk : 10 ≤ k) : spec_Sha256.l1 k s.list [] 0 = some (strOfNums (s.list.flatMap be32)) := by
  have st : ∀ (n : Nat) (out : List Int) (k : Nat), n < 8 → out.length ≤ 100 → spec_Sha256.l1 (k + 1) s.list out (n : Int) = spec_Sha256.l1 k s.list (out ++ be32 (s.list.getD n 0)) ((n + 1 : Nat) : Int) := by
    intro n out k hn ho
    have i4 : wrap64 ((n : Int) + 1) = ((n + 1 : Nat) : Int) := by unfold wrap64; omega
    rw [spec_Sha256.l1, if_pos (by omega), i4, if_pos (Int.natCast_nonneg _), if_pos (by show (n : Int) < 8; omega), rd_nat _ _ _ rfl, Option.bind_some, if_pos (by show out.length + 4 < _; omega)]
    rfl
  obtain ⟨k, rfl⟩ : ∃ j, k = j + 9 := ⟨k - 9, by omega⟩
  have e := st 0 [] (k + 8) (by omega) (by simp)
  refine e.trans ?_
  rw [st 1 _ (k + 7) (by omega) (by simp [be32]), st 2 _ (k + 6) (by omega) (by simp [be32]), st 3 _ (k + 5) (by omega) (by simp [be32]), st 4 _ (k + 4) (by omega) (by simp [be32]), st 5 _ (k + 3) (by omega) (by simp [be32]), st 6 _ (k + 2) (by omega) (by simp [be32]), st 7 _ (k + 1) (by omega) (by simp [be32])]
  rw [spec_Sha256.l1, if_neg (by omega)]
  rfl
theorem bytes_padList (s : ByteArray) : Bytes (padList s) := by
  unfold padList
  refine Bytes.append (Bytes.append (Bytes.append (bytes_bytesOf s) ?_) ?_) (bytes_be64 _)
  · intro x hx; obtain rfl := List.mem_singleton.1 hx; omega
  · intro x hx; obtain rfl := List.eq_of_mem_replicate hx; omega
theorem padList_eq (s : ByteArray) : padList s = padM (bytesOf s) := by unfold padList padM; rw [bytesOf_length]
theorem padM_length (m : List Int) : (padM m).length = 64 * ((m.length + 72) / 64) := by
  unfold padM padZeros
  simp only [List.length_append, List.length_cons, List.length_nil, List.length_replicate]
  show m.length + 1 + _ + 8 = _
  omega
theorem spBlocks (ks x : List Int) (hks : ks = roundK) (N : Nat) (hx : Bytes x) (hN : x.length = 64 * N) (hl : x.length ≤ 140737488355328) : ∀ d n k, n + d = N → d + 80 ≤ k →
    spec_Sha256.l0 k (stN x n).list ks x ((64 * n : Nat) : Int) = some (strOfNums ((stN x N).list.flatMap be32)) := by
  intro d
  induction d with
  | zero =>
    intro n k hn hk
    obtain rfl : n = N := by omega
    obtain ⟨k, rfl⟩ : ∃ j, k = j + 1 := ⟨k - 1, by omega⟩
    rw [spec_Sha256.l0, if_neg (by omega)]
    exact spOut _ _ (by omega)
  | succ d ih =>
    intro n k hn hk
    obtain ⟨k, rfl⟩ : ∃ j, k = j + 1 := ⟨k - 1, by omega⟩
    have i4 : wrap64 (((64 * n : Nat) : Int) + 64) = ((64 * (n + 1) : Nat) : Int) := by unfold wrap64; omega
    rw [spec_Sha256.l0, if_pos (by omega), i4, spBlock (stN x n) x ks (64 * n) (by rw [hks]; rfl) hx (by omega) hl k (by omega), Option.bind_some]
    have e := ih (n + 1) k (by omega) (by omega)
    rw [hks] at e ⊢
    exact e
theorem spSha (a0 : ByteArray) (k : Nat) (h : a0.size ≤ 70368744177664) (hk : (a0.size + 72) / 64 + 80 ≤ k) : spec_Sha256.f k a0 = some (shaS (bytesOf a0)) := by
  unfold spec_Sha256.f
  rw [show spec_l1K.f = some roundK from rfl, Option.bind_some, spec_l1Padded.f, if_pos h, Option.bind_some]
  have hl : (padList a0).length = 64 * ((a0.size + 72) / 64) := by rw [padList_eq, padM_length, bytesOf_length]
  have e := spBlocks roundK (padList a0) rfl ((a0.size + 72) / 64) (bytes_padList a0) hl (by rw [hl]; omega) ((a0.size + 72) / 64) 0 k (by omega) hk
  refine e.trans ?_
  unfold shaS shaNums stOf
  rw [← padList_eq, hl, Nat.mul_div_cancel_left _ (by omega)]
end Go.Proofs.YtfonhiakelmhhaaDoor.P
end
section
namespace Go.Proofs.YtfonhiakelmhhaaDoor.P
open Go.RowKit Go.Proofs.YtfonhiakelmhhaaDoorW.PrintWords Go.Proofs.YtfonhiakelmhhaaDoorW.PrintLast Go.Proofs.YtfonhiakelmhhaaDoorW.PrintMore
set_option linter.unusedVariables false
set_option linter.unusedSimpArgs false
theorem spLong64 : spec_l1Long.f 20 64 ⟨#[0]⟩ = some (strOfNums (List.replicate 64 0)) := by decide +kernel
theorem spLong32 : spec_l1Long.f 20 32 ⟨#[0]⟩ = some (strOfNums (List.replicate 32 0)) := by decide +kernel
theorem bt_nat (s : ByteArray) (n : Nat) : bt s (n : Int) = (bytesOf s).getD n 0 := by
  unfold bt bytesOf
  rw [List.getD_eq_getElem?_getD, List.getElem?_map, Array.getElem?_toList]
  by_cases h : n < s.size
  · rw [dif_pos (by rw [Int.toNat_natCast]; exact h), Array.getElem?_eq_getElem (show n < s.data.size from h)]
    simp only [Int.toNat_natCast]
    rfl
  · rw [dif_neg (by rw [Int.toNat_natCast]; exact h), Array.getElem?_eq_none (by show s.data.size ≤ n; have : s.size = s.data.size := rfl; omega)]
    rfl
theorem spBoth (a b : ByteArray) (ha : a.size ≤ 1000) (hb : a.size ≤ b.size) : ∀ d n k, n + d = a.size → d + 1 ≤ k → spec_l4Both.l0 k a b (xorN (bytesOf a) (bytesOf b) n) (n : Int) = some (strOfNums (xorL (bytesOf a) (bytesOf b))) := by
  intro d
  induction d with
  | zero =>
    intro n k hn hk
    obtain rfl : n = a.size := by omega
    obtain ⟨k, rfl⟩ : ∃ j, k = j + 1 := ⟨k - 1, by omega⟩
    rw [spec_l4Both.l0, if_neg (by omega), xorN_all _ _ _ (by rw [bytesOf_length]; exact Nat.le_refl _)]
  | succ d ih =>
    intro n k hn hk
    obtain ⟨k, rfl⟩ : ∃ j, k = j + 1 := ⟨k - 1, by omega⟩
    have i4 : wrap64 ((n : Int) + 1) = ((n + 1 : Nat) : Int) := by unfold wrap64; omega
    have hl : (xorN (bytesOf a) (bytesOf b) n).length = n := xorN_length _ _ _ (by rw [bytesOf_length]; omega) (by rw [bytesOf_length]; omega)
    rw [spec_l4Both.l0, if_pos (by omega), if_pos (Int.natCast_nonneg _), if_pos (by omega), if_pos (by omega), i4, bt_nat, bt_nat, ← xorN_succ _ _ _ (by rw [bytesOf_length]; omega) (by rw [bytesOf_length]; omega)]
    exact ih (n + 1) k (by omega) (by omega)
theorem strOfNums_append (a b : List Int) : strOfNums a ++ strOfNums b = strOfNums (a ++ b) := by
  apply ByteArray.ext
  apply Array.toList_inj.1
  rw [ByteArray.data_append, Array.toList_append, strOfNums_data, strOfNums_data, strOfNums_data, List.map_append]
theorem spXmd (b0 T : ByteArray) (n : Int) (hb : b0.size = 32) (hT : T.size ≤ 256) (h0 : 1 ≤ n) (h1 : n ≤ 8160) (N : Nat) (hN : N = (n.toNat + 31) / 32) : ∀ d j k, j + d = N → d + 200 ≤ k →
    spec_ExpandMessage.l0 k n T b0 (strOfNums (xb (bytesOf b0) T j)) (strOfNums (xAll (bytesOf b0) T j)) ((j : Int) + 1) = some (strOfNums ((xAll (bytesOf b0) T N).take n.toNat), true) := by
  intro d
  induction d with
  | zero =>
    intro j k hj hk
    obtain rfl : j = N := by omega
    obtain ⟨k, rfl⟩ : ∃ j, k = j + 1 := ⟨k - 1, by omega⟩
    rw [spec_ExpandMessage.l0, if_neg (by rw [strOfNums_size, xAll_length]; omega), if_pos (by omega), if_pos (by rw [strOfNums_size, xAll_length]; omega), strOfNums_extract]
  | succ d ih =>
    intro j k hj hk
    obtain ⟨k, rfl⟩ : ∃ j, k = j + 1 := ⟨k - 1, by omega⟩
    have i4 : wrap64 ((j : Int) + 1 + 1) = ((j + 1 : Nat) : Int) + 1 := by unfold wrap64; omega
    have hz : (strOfNums (xb (bytesOf b0) T j)).size = 32 := by rw [strOfNums_size, xb_length]
    have eb : spec_l4Both.f k b0 (strOfNums (xb (bytesOf b0) T j)) = some (strOfNums (xorL (bytesOf b0) (xb (bytesOf b0) T j))) := by
      have e := spBoth b0 (strOfNums (xb (bytesOf b0) T j)) (by omega) (by omega) 32 0 k (by omega) (by omega)
      rw [bytesOf_strOfNums _ (bytes_xb _ _ _)] at e
      exact e
    have hx : (xorL (bytesOf b0) (xb (bytesOf b0) T j)).length = 32 := by rw [xorL, List.length_zipWith, bytesOf_length, xb_length, hb]; rfl
    rw [spec_ExpandMessage.l0, if_pos (by rw [strOfNums_size, xAll_length]; omega), eb, Option.bind_some, Option.bind_some, i4]
    rw [if_pos (by rw [strOfNums_size, strOfNums_size, hx]; show 32 + 1 ≤ _; omega), strOfNums_append, if_pos (by rw [strOfNums_size, List.length_append, hx]; show 32 + 1 + _ ≤ _; omega)]
    have es : spec_Sha256.f k (strOfNums (xorL (bytesOf b0) (xb (bytesOf b0) T j) ++ [((j : Int) + 1) % 256]) ++ T) = some (strOfNums (xb (bytesOf b0) T (j + 1))) := by
      rw [spSha _ k (by rw [ByteArray.size_append, strOfNums_size, List.length_append, hx]; show 32 + 1 + _ ≤ _; omega) (by rw [ByteArray.size_append, strOfNums_size, List.length_append, hx]; show (32 + 1 + _ + 72) / 64 + 80 ≤ k; omega)]
      congr 1
      rw [bytesOf_append, bytesOf_strOfNums _ (Bytes.append (bytes_xorL _ _ (bytes_bytesOf _) (bytes_xb _ _ _)) (by intro x hx; obtain rfl := List.mem_singleton.1 hx; omega))]
      rfl
    rw [es, Option.bind_some, if_pos (by rw [strOfNums_size, strOfNums_size, xAll_length, xb_length]; omega), strOfNums_append]
    exact ih (j + 1) k (by omega) (by omega)
theorem leO_up {α : Type} {f : Nat → Option α} (h : ∀ k, LeO (f k) (f (k + 1))) {k m : Nat} (hk : k ≤ m) {r : α} (e : f k = some r) : f m = some r := by
  obtain ⟨d, rfl⟩ := Nat.exists_eq_add_of_le hk
  induction d with
  | zero => exact e
  | succ d ih => exact h _ _ (ih (by omega))
theorem spLong64' (k : Nat) (hk : 20 ≤ k) : spec_l1Long.f k 64 ⟨#[0]⟩ = some (strOfNums (List.replicate 64 0)) := leO_up (spec_l1Long.mono 64 ⟨#[0]⟩) hk spLong64
theorem spLong32' (k : Nat) (hk : 20 ≤ k) : spec_l1Long.f k 32 ⟨#[0]⟩ = some (strOfNums (List.replicate 32 0)) := leO_up (spec_l1Long.mono 32 ⟨#[0]⟩) hk spLong32
theorem spPre (msg tag : ByteArray) (n : Int) (h0 : 1 ≤ n) (h1 : n ≤ 8160) :
    shaS (bytesOf (((strOfNums (List.replicate 64 0) ++ msg) ++ strOfNums [(wrap64 (Int.tdiv n 256)) % 256, n % 256, 0]) ++ tagS tag)) = b0S msg tag n := by
  unfold b0S
  congr 1
  have e : wrap64 (Int.tdiv n 256) = n / 256 := by rw [Int.tdiv_eq_ediv_of_nonneg (by omega)]; unfold wrap64; omega
  rw [bytesOf_append, bytesOf_append, bytesOf_append, bytesOf_strOfNums _ (by intro x hx; obtain rfl := List.eq_of_mem_replicate hx; omega), e,
    bytesOf_strOfNums [n / 256 % 256, n % 256, 0] (by intro x hx; simp only [List.mem_cons, List.not_mem_nil, or_false] at hx; rcases hx with rfl | rfl | rfl <;> omega)]
  simp only [be16, List.append_assoc, List.cons_append, List.nil_append]
theorem spExpand (a0 a1 : ByteArray) (a2 : Int) (k : Nat) (h0 : a0.size ≤ 1048576) (h1 : a1.size ≤ 1048576) (hk : 2000 ≤ k) : spec_ExpandMessage.f k a0 a1 a2 = impl_ExpandMessage.f a0 a1 a2 := by
  obtain ⟨k, rfl⟩ : ∃ j, k = j + 1 := ⟨k - 1, by omega⟩
  have no : spec_ExpandMessage.j0 (k + 1) a0 a1 a2 true = some (⟨#[]⟩, false) := by rw [spec_ExpandMessage.j0, if_pos rfl]
  unfold spec_ExpandMessage.f impl_ExpandMessage.f
  rw [if_pos (show a0.size ≤ 281474976710656 ∧ a1.size ≤ 281474976710656 by omega), no]
  by_cases c1 : a1.size < 1
  · rw [if_pos (by omega), if_pos c1]
  rw [if_neg (by omega), if_neg c1]
  by_cases c2 : 255 < a1.size
  · rw [if_pos (by omega), if_pos c2]
  rw [if_neg (by omega), if_neg c2]
  by_cases c3 : a2 < 1
  · rw [if_pos c3, if_pos c3]
  rw [if_neg c3, if_neg c3]
  by_cases c4 : 8160 < a2
  · rw [if_pos c4, if_pos c4]
  rw [if_neg c4, if_neg c4]
  by_cases c5 : 65535 < a0.size
  · rw [show decide ((a0.size : Int) > 65535) = true from decide_eq_true (by omega), no, if_pos c5]
  rw [show decide ((a0.size : Int) > 65535) = false from decide_eq_false (by omega), if_neg c5]
  rw [spec_ExpandMessage.j0, if_neg (by decide), Option.bind_some, show ((a1.size : Int)) % 256 = (a1.size : Int) % 256 from rfl, show a1 ++ strOfNums [(a1.size : Int) % 256] = tagS a1 from rfl]
  have ht : (tagS a1).size = a1.size + 1 := by rw [tagS, ByteArray.size_append, strOfNums_size]; rfl
  have hz : (strOfNums (List.replicate 64 0)).size = 64 := by rw [strOfNums_size]; rfl
  rw [if_pos (by rw [strOfNums_size]; show a1.size + 1 ≤ _; omega), spLong64' k (by omega), Option.bind_some, if_pos (by rw [hz]; omega), Option.bind_some,
    if_pos (by rw [ByteArray.size_append, hz, strOfNums_size]; show 64 + a0.size + 3 ≤ _; omega), if_pos (by rw [ByteArray.size_append, ByteArray.size_append, hz, ht, strOfNums_size]; show 64 + a0.size + 3 + _ ≤ _; omega)]
  have es := spSha (((strOfNums (List.replicate 64 0) ++ a0) ++ strOfNums [(wrap64 (Int.tdiv a2 256)) % 256, a2 % 256, 0]) ++ tagS a1) k (by rw [ByteArray.size_append, ByteArray.size_append, ByteArray.size_append, hz, ht, strOfNums_size]; show 64 + a0.size + 3 + _ ≤ _; omega) (by rw [ByteArray.size_append, ByteArray.size_append, ByteArray.size_append, hz, ht, strOfNums_size]; show (64 + a0.size + 3 + _ + 72) / 64 + 80 ≤ k; omega)
  rw [spPre a0 a1 a2 (by omega) (by omega)] at es
  rw [es, Option.bind_some, spLong32' k (by omega), Option.bind_some]
  exact spXmd (b0S a0 a1 a2) (tagS a1) a2 (shaS_size _) (by omega) (by omega) (by omega) ((a2.toNat + 31) / 32) rfl ((a2.toNat + 31) / 32) 0 k (by omega) (by omega)
end Go.Proofs.YtfonhiakelmhhaaDoor.P
end
section
namespace Go.Proofs.YtfonhiakelmhhaaDoor.P
open Go.RowKit Go.Proofs.YtfonhiakelmhhaaDoorW.PrintWords Go.Proofs.YtfonhiakelmhhaaDoorW.PrintLast Go.Proofs.YtfonhiakelmhhaaDoorW.PrintMore
set_option linter.unusedVariables false
set_option linter.unusedSimpArgs false
theorem longAll : ∀ n : Nat, n < 65 → spec_l1Long.f 60 (n : Int) ⟨#[0]⟩ = some (strOfNums (List.replicate n 0)) := by decide +kernel
theorem longAt (n k : Nat) (hn : n ≤ 64) (hk : 60 ≤ k) : spec_l1Long.f k (n : Int) ⟨#[0]⟩ = some (strOfNums (List.replicate n 0)) :=
  leO_up (spec_l1Long.mono (n : Int) ⟨#[0]⟩) hk (longAll n (by omega))
theorem spXorAll (s : ByteArray) (c : Int) (hs : s.size ≤ 1000) : ∀ d n k, n + d = s.size → d + 1 ≤ k →
    spec_l1Xor.l0 k s c (((bytesOf s).take n).map fun x => Go.bits .xor .u8 x c) (n : Int) = some (strOfNums ((bytesOf s).map fun x => Go.bits .xor .u8 x c)) := by
  intro d
  induction d with
  | zero =>
    intro n k hn hk
    obtain ⟨k, rfl⟩ : ∃ j, k = j + 1 := ⟨k - 1, by omega⟩
    rw [spec_l1Xor.l0, if_neg (by omega), List.take_of_length_le (by rw [bytesOf_length]; omega)]
  | succ d ih =>
    intro n k hn hk
    obtain ⟨k, rfl⟩ : ∃ j, k = j + 1 := ⟨k - 1, by omega⟩
    have hl : n < (bytesOf s).length := by rw [bytesOf_length]; omega
    have e : (((bytesOf s).take n).map fun x => Go.bits .xor .u8 x c) ++ [Go.bits .xor .u8 (bt s (n : Int)) c] = ((bytesOf s).take (n + 1)).map fun x => Go.bits .xor .u8 x c := by
      rw [bt_nat, List.take_succ_eq_append_getElem hl, List.map_append, List.getD_eq_getElem?_getD, List.getElem?_eq_getElem hl]
      rfl
    rw [spec_l1Xor.l0, if_pos (by omega), if_pos (by omega), if_pos (by rw [List.length_map, List.length_take]; omega), e, show wrap64 ((n : Int) + 1) = ((n + 1 : Nat) : Int) from by unfold wrap64; omega]
    exact ih (n + 1) k (by omega) (by omega)
theorem spXor (s : ByteArray) (c : Int) (k : Nat) (hs : s.size ≤ 1000) (hk : 1001 ≤ k) : spec_l1Xor.f k s c = some (strOfNums ((bytesOf s).map fun x => Go.bits .xor .u8 x c)) := by
  unfold spec_l1Xor.f
  exact spXorAll s c hs s.size 0 k (by omega) (by omega)
def keyB (key : ByteArray) : ByteArray := if 64 < key.size then shaS (bytesOf key) else key
theorem keyB_bytes (key : ByteArray) : bytesOf (keyB key) = keyL key := by
  unfold keyB keyL
  split
  · exact bytesOf_shaS _
  · rfl
theorem keyB_size (key : ByteArray) : (keyB key).size ≤ 64 := by
  unfold keyB
  split
  · rw [shaS_size]; omega
  · omega
theorem spHmac0 (key s : ByteArray) (k : Nat) (hs : s.size ≤ 70368744177000) (hk : (s.size + 136) / 64 + 1100 ≤ k) : spec_Hmac.j0 (k + 1) (keyB key) s = some (hmacL key (bytesOf s)) := by
  have hb := keyB_size key
  have hl : (keyL key).length = (keyB key).size := by rw [← keyB_bytes, bytesOf_length]
  have el : wrap64 (64 - ((keyB key).size : Int)) = ((64 - (keyB key).size : Nat) : Int) := by unfold wrap64; omega
  have ep : ∀ c, (bytesOf (keyB key ++ strOfNums (List.replicate (64 - (keyB key).size) 0))).map (fun x => Go.bits .xor .u8 x c) = padX key c := by
    intro c
    rw [bytesOf_append, keyB_bytes, bytesOf_strOfNums _ (by intro x hx; obtain rfl := List.eq_of_mem_replicate hx; omega)]
    unfold padX keyPad
    rw [hl]
  have hz : (keyB key ++ strOfNums (List.replicate (64 - (keyB key).size) 0)).size = 64 := by rw [ByteArray.size_append, strOfNums_size, List.length_replicate]; omega
  have zp : ∀ c, (strOfNums (padX key c)).size = 64 := fun c => by rw [strOfNums_size, padX_length]
  rw [spec_Hmac.j0, el, longAt _ k (by omega) (by omega), Option.bind_some, if_pos (by rw [strOfNums_size, List.length_replicate]; omega),
    spXor _ 92 k (by omega) (by omega), Option.bind_some, spXor _ 54 k (by omega) (by omega), Option.bind_some, ep, ep, if_pos (by rw [zp]; omega)]
  rw [spSha _ k (by rw [ByteArray.size_append, zp]; omega) (by rw [ByteArray.size_append, zp]; omega), Option.bind_some, if_pos (by rw [zp, shaS_size]; omega),
    spSha _ k (by rw [ByteArray.size_append, zp, shaS_size]; omega) (by rw [ByteArray.size_append, zp, shaS_size]; omega), Option.bind_some]
  congr 1
  unfold hmacL
  rw [bytesOf_append, bytesOf_append, bytesOf_strOfNums _ (bytes_padX key 92 (by decide) (by decide)), bytesOf_strOfNums _ (bytes_padX key 54 (by decide) (by decide))]
theorem spHmac (key s : ByteArray) (k : Nat) (hz : key.size ≤ 70368744177000) (hs : s.size ≤ 70368744177000) (hk : (s.size + 136) / 64 + 1101 ≤ k) (hk2 : (key.size + 72) / 64 + 80 ≤ k) : spec_Hmac.f k key s = some (hmacL key (bytesOf s)) := by
  obtain ⟨k, rfl⟩ : ∃ j, k = j + 1 := ⟨k - 1, by omega⟩
  have e := spHmac0 key s k hs (by omega)
  unfold keyB at e
  unfold spec_Hmac.f
  by_cases c : 64 < key.size
  · rw [if_pos c] at e
    rw [if_pos (by omega), spSha key (k + 1) (by omega) (by omega), Option.bind_some, e]
  · rw [if_neg c] at e
    rw [if_neg (by omega), e]
theorem spExp (key info : ByteArray) (n : Int) (hz : key.size ≤ 70368744177000) (hi : info.size ≤ 70368744170000) (h0 : 0 ≤ n) (h1 : n ≤ 8160) (N : Nat) (hN : N = (n.toNat + 31) / 32) :
    ∀ d j k, j + d = N → (info.size + 400) / 64 + (key.size + 72) / 64 + d + 1200 ≤ k →
    spec_Expand.l0 k key info n (strOfNums (exAll key info j)) (strOfNums (exN key info j)) ((j : Int) + 1) = some (strOfNums ((exAll key info N).take n.toNat), true) := by
  intro d
  induction d with
  | zero =>
    intro j k hj hk
    obtain rfl : j = N := by omega
    obtain ⟨k, rfl⟩ : ∃ j, k = j + 1 := ⟨k - 1, by omega⟩
    rw [spec_Expand.l0, if_neg (by rw [strOfNums_size, exAll_length]; omega), if_pos h0, if_pos (by rw [strOfNums_size, exAll_length]; omega), strOfNums_extract]
  | succ d ih =>
    intro j k hj hk
    obtain ⟨k, rfl⟩ : ∃ j, k = j + 1 := ⟨k - 1, by omega⟩
    have hx := exN_le key info j
    have z1 : (strOfNums (exN key info j)).size ≤ 32 := by rw [strOfNums_size]; exact hx
    have z2 : (strOfNums [((j : Int) + 1) % 256]).size = 1 := by rw [strOfNums_size]; rfl
    have eb : bytesOf ((strOfNums (exN key info j) ++ info) ++ strOfNums [((j : Int) + 1) % 256]) = exN key info j ++ bytesOf info ++ [((j : Int) + 1) % 256] := by
      rw [bytesOf_append, bytesOf_append, bytesOf_strOfNums _ (bytes_exN key info j), bytesOf_strOfNums _ (by intro x hx; obtain rfl := List.mem_singleton.1 hx; omega)]
    have eh : spec_Hmac.f k key ((strOfNums (exN key info j) ++ info) ++ strOfNums [((j : Int) + 1) % 256]) = some (strOfNums (exN key info (j + 1))) := by
      rw [spHmac key _ k hz (by rw [ByteArray.size_append, ByteArray.size_append, z2]; omega) (by rw [ByteArray.size_append, ByteArray.size_append, z2]; omega) (by omega), eb, hmacL_eq]
      rfl
    have ea : strOfNums (exAll key info j) ++ strOfNums (exN key info (j + 1)) = strOfNums (exAll key info (j + 1)) := by rw [strOfNums_append]; rfl
    rw [spec_Expand.l0, if_pos (by rw [strOfNums_size, exAll_length]; omega), if_pos (by omega), Option.bind_some, if_pos (by rw [ByteArray.size_append, z2]; omega), eh, Option.bind_some,
      if_pos (by rw [strOfNums_size, strOfNums_size, exAll_length]; have : (exN key info (j + 1)).length = 32 := hmacN_length _ _; omega), ea, show wrap64 ((j : Int) + 1 + 1) = ((j + 1 : Nat) : Int) + 1 from by unfold wrap64; omega]
    exact ih (j + 1) k (by omega) (by omega)
theorem spExpand2 (key info : ByteArray) (n : Int) (k : Nat) (hz : key.size ≤ 70368744177000) (hi : info.size ≤ 70368744170000) (hk : (info.size + 400) / 64 + (key.size + 72) / 64 + 2000 ≤ k) : spec_Expand.f k key info n = impl_Expand.f key info n := by
  obtain ⟨k, rfl⟩ : ∃ j, k = j + 1 := ⟨k - 1, by omega⟩
  unfold spec_Expand.f impl_Expand.f
  rw [if_pos (show key.size ≤ 281474976710656 ∧ info.size ≤ 281474976710656 by omega)]
  by_cases c1 : n < 0
  · rw [if_pos c1, if_pos c1, spec_Expand.j0, if_pos rfl]
  rw [if_neg c1, if_neg c1]
  by_cases c2 : 8160 < n
  · rw [if_pos c2, decide_eq_true (by omega), spec_Expand.j0, if_pos rfl]
  rw [if_neg c2, decide_eq_false (by omega), spec_Expand.j0, if_neg (by decide)]
  exact spExp key info n hz hi (by omega) (by omega) ((n.toNat + 31) / 32) rfl ((n.toNat + 31) / 32) 0 k (by omega) (by omega)
end Go.Proofs.YtfonhiakelmhhaaDoor.P
end
section
namespace Go.Proofs.YtfonhiakelmhhaaDoor.P
open Go.RowKit Go.Proofs.YtfonhiakelmhhaaDoorW.PrintWords Go.Proofs.YtfonhiakelmhhaaDoorW.PrintLast Go.Proofs.YtfonhiakelmhhaaDoorW.PrintMore
set_option linter.unusedVariables false
set_option linter.unusedSimpArgs false
theorem tmod_lt (x n : Int) (hn : 1 ≤ n) : -n < Int.tmod x n ∧ Int.tmod x n < n := by
  have h := Int.tmod_lt_of_pos x (show 0 < n by omega)
  have h2 : -n < Int.tmod x n := by
    have := Int.lt_tmod_of_pos x (show 0 < n by omega)
    omega
  exact ⟨h2, h⟩
theorem takeOk (l : List Int) (p n : Int) (k : Nat) (hk : 1 ≤ k) (hp : 0 ≤ p) (hp1 : p ≤ 1000000) (hn : 1 ≤ n) (hn1 : n ≤ 1000000) :
    ∃ a, spec_l1Take.f k l p n = some (a, p + 1) ∧ -n < a ∧ a < n := by
  obtain ⟨k, rfl⟩ : ∃ j, k = j + 1 := ⟨k - 1, by omega⟩
  have w1 : wrap64 (p + 1) = p + 1 := by unfold wrap64; omega
  unfold spec_l1Take.f
  rw [if_neg (by omega)]
  by_cases hl : (l.length : Int) = 0
  · rw [hl, show ((0 : Int) == 0) = true from rfl, spec_l1Take.j0, if_pos rfl, w1]
    exact ⟨0, rfl, by omega, by omega⟩
  rw [show ((l.length : Int) == 0) = false from beq_eq_false_iff_ne.2 hl, spec_l1Take.j0, if_neg (by decide), w1]
  have hl0 : (0 : Int) < (l.length : Int) := by omega
  have m1 : 0 ≤ Int.tmod p (l.length : Int) := Int.tmod_nonneg _ hp
  have m2 := Int.tmod_lt_of_pos p hl0
  have e7 : wrap64 (wrap64 (p * 7) + 3) = p * 7 + 3 := by unfold wrap64; omega
  have m3 : 0 ≤ Int.tmod (p * 7 + 3) (l.length : Int) := Int.tmod_nonneg _ (by omega)
  have m4 := Int.tmod_lt_of_pos (p * 7 + 3) hl0
  have far : ∀ X : Int, ∃ a, (if (l.length : Int) = 0 then (none : Option (Int × Int)) else (if 0 ≤ Int.tmod p (l.length : Int) then (if Int.tmod p (l.length : Int) < (l.length : Int) then (if 0 ≤ Int.tmod (wrap64 (wrap64 (p * 7) + 3)) (l.length : Int) then (if Int.tmod (wrap64 (wrap64 (p * 7) + 3)) (l.length : Int) < (l.length : Int) then (if n = 0 then none else some (Int.tmod X n, p + 1)) else none) else none) else none) else none)) = some (a, p + 1) ∧ -n < a ∧ a < n := by
    intro X
    rw [if_neg hl, if_pos m1, if_pos m2, e7, if_pos m3, if_pos m4, if_neg (by omega)]
    exact ⟨_, rfl, tmod_lt X n hn⟩
  by_cases h1 : p < (l.length : Int)
  · rw [if_pos h1]
    by_cases h2 : n ≤ 256
    · rw [if_pos h2, if_pos hp, if_neg (by omega)]
      exact ⟨_, rfl, tmod_lt _ n hn⟩
    · rw [if_neg h2]; exact far _
  · rw [if_neg h1]; exact far _
theorem bytesLoop (l : List Int) (n : Int) (hn1 : n ≤ 100000) : ∀ (d k : Nat) (p : Int) (acc : List Int) (i : Nat), (i : Int) + d = n → d + 2 ≤ k → 0 ≤ p → p + d ≤ 1000000 → acc.length = i →
    ∃ s, spec_l1Bytes.l0 k l p n acc (i : Int) = some (s, p + d) ∧ (s.size : Int) = n := by
  intro d
  induction d with
  | zero =>
    intro k p acc i hi hk hp hp1 ha
    obtain ⟨k, rfl⟩ : ∃ j, k = j + 1 := ⟨k - 1, by omega⟩
    rw [spec_l1Bytes.l0, if_neg (by omega)]
    exact ⟨_, by rw [show p + ((0 : Nat) : Int) = p by omega], by rw [strOfNums_size]; omega⟩
  | succ d ih =>
    intro k p acc i hi hk hp hp1 ha
    obtain ⟨k, rfl⟩ : ∃ j, k = j + 1 := ⟨k - 1, by omega⟩
    obtain ⟨a, ea, _, _⟩ := takeOk l p 256 k (by omega) hp (by omega) (by omega) (by omega)
    rw [spec_l1Bytes.l0, if_pos (by omega), ea, Option.bind_some, if_pos (by omega), show wrap64 ((i : Int) + 1) = ((i + 1 : Nat) : Int) from by unfold wrap64; omega]
    obtain ⟨s, es, hs⟩ := ih k (p + 1) (acc ++ [a % 256]) (i + 1) (by omega) (by omega) (by omega) (by omega) (by rw [List.length_append]; show acc.length + 1 = _; omega)
    refine ⟨s, ?_, hs⟩
    rw [es, show p + 1 + (d : Int) = p + ((d + 1 : Nat) : Int) by omega]
theorem bytesOk (l : List Int) (p n : Int) (k : Nat) (hn1 : n ≤ 100000) (hk : n.toNat + 2 ≤ k) (hp : 0 ≤ p) (hp1 : p + n.toNat ≤ 1000000) :
    ∃ s, spec_l1Bytes.f k l p n = some (s, p + n.toNat) ∧ s.size = n.toNat := by
  unfold spec_l1Bytes.f
  by_cases h : 0 ≤ n
  · obtain ⟨s, es, hs⟩ := bytesLoop l n hn1 n.toNat k p [] 0 (by omega) hk hp (by omega) rfl
    exact ⟨s, es, by omega⟩
  · obtain ⟨k, rfl⟩ : ∃ j, k = j + 1 := ⟨k - 1, by omega⟩
    rw [spec_l1Bytes.l0, if_neg (by omega)]
    exact ⟨_, by rw [show p + (n.toNat : Int) = p by omega], by rw [strOfNums_size]; show 0 = _; omega⟩
theorem longLoop (b : ByteArray) (hb1 : b.size ≤ 10) (n : Int) (h0 : 0 < n) (hn : n ≤ 100000) (F : Nat)
    (rec : ∀ m : Int, 2 * m ≤ n → 0 < m → ∀ k, F ≤ k → ∃ s, spec_l1Long.f k m b = some s ∧ (s.size : Int) ≤ m + b.size) :
    ∀ d k (x : ByteArray), n.toNat - x.size ≤ d → 1 ≤ x.size → ((x.size : Int) ≤ n ∨ x.size ≤ b.size) → F + d + 1 ≤ k → ∃ s, spec_l1Long.l0 k n b x = some s ∧ (s.size : Int) ≤ n + b.size := by
  intro d
  induction d with
  | zero =>
    intro k x hx hx1 hx3 hk
    obtain ⟨k, rfl⟩ : ∃ j, k = j + 1 := ⟨k - 1, by omega⟩
    have ew : wrap64 ((x.size : Int) * 2) = (x.size : Int) * 2 := by unfold wrap64; omega
    rw [spec_l1Long.l0, ew, if_neg (by omega), if_neg (by omega)]
    exact ⟨x, rfl, by omega⟩
  | succ d ih =>
    intro k x hx hx1 hx3 hk
    obtain ⟨k, rfl⟩ : ∃ j, k = j + 1 := ⟨k - 1, by omega⟩
    have ew : wrap64 ((x.size : Int) * 2) = (x.size : Int) * 2 := by unfold wrap64; omega
    rw [spec_l1Long.l0, ew]
    by_cases c : (x.size : Int) * 2 ≤ n
    · rw [if_pos c, if_pos h0, if_pos (by omega)]
      exact ih k (x ++ x) (by rw [ByteArray.size_append]; omega) (by rw [ByteArray.size_append]; omega) (.inl (by rw [ByteArray.size_append]; omega)) (by omega)
    · rw [if_neg c]
      by_cases c2 : (x.size : Int) < n
      · have ew2 : wrap64 (n - (x.size : Int)) = n - (x.size : Int) := by unfold wrap64; omega
        obtain ⟨s, es, hs⟩ := rec (n - (x.size : Int)) (by omega) (by omega) k (by omega)
        rw [if_pos c2, ew2, es, Option.bind_some, if_pos (by omega)]
        exact ⟨_, rfl, by rw [ByteArray.size_append]; omega⟩
      · rw [if_neg c2]; exact ⟨x, rfl, by omega⟩
theorem longOk (b : ByteArray) (hb0 : 1 ≤ b.size) (hb1 : b.size ≤ 10) : ∀ N (n : Int), n.toNat ≤ N → n ≤ 100000 → ∀ k, 8 * N + 30 ≤ k → ∃ s, spec_l1Long.f k n b = some s ∧ (s.size : Int) ≤ max n 0 + b.size := by
  intro N
  induction N using Nat.strongRecOn with
  | _ N ih =>
    intro n hN hn k hk
    obtain ⟨k, rfl⟩ : ∃ j, k = j + 1 + 1 := ⟨k - 2, by omega⟩
    rw [spec_l1Long.f]
    by_cases c : n > 0
    · rw [if_pos c, spec_l1Long.j0]
      obtain ⟨s, es, hs⟩ := longLoop b hb1 n c hn (8 * (n.toNat / 2) + 30) (fun m hm hm0 k' hk' => by
        obtain ⟨s, es, hs⟩ := ih (n.toNat / 2) (by omega) m (by omega) (by omega) k' hk'
        exact ⟨s, es, by omega⟩) n.toNat k b (by omega) hb0 (.inr (Nat.le_refl _)) (by omega)
      exact ⟨s, es, by omega⟩
    · obtain ⟨k, rfl⟩ : ∃ j, k = j + 1 := ⟨k - 1, by omega⟩
      have z : ((⟨#[]⟩ : ByteArray).size : Int) = 0 := rfl
      rw [if_neg c, spec_l1Long.j0, spec_l1Long.l0, z, show wrap64 (0 * 2) = 0 from by unfold wrap64; omega]
      refine ⟨⟨#[]⟩, ?_, by rw [z]; omega⟩
      by_cases c2 : 0 ≤ n
      · rw [if_pos c2, if_neg c, if_neg (by omega)]
      · rw [if_neg c2, if_neg (by omega)]
theorem someOk (l : List Int) (p : Int) (k : Nat) (hk : 600000 ≤ k) (hp : 0 ≤ p) (hp1 : p ≤ 500000) :
    ∃ s q, spec_l1Some.f k l p = some (s, q) ∧ s.size ≤ 65540 ∧ 0 ≤ q ∧ q ≤ p + 50 := by
  unfold spec_l1Some.f
  obtain ⟨a, ea, ha0, ha1⟩ := takeOk l p 80 k (by omega) hp (by omega) (by omega) (by omega)
  obtain ⟨n, en, hn0, hn1⟩ := takeOk l (p + 1) 40 k (by omega) (by omega) (by omega) (by omega) (by omega)
  rw [ea, Option.bind_some, en, Option.bind_some]
  have t2 := tmod_lt n 2 (by omega)
  have ew : wrap64 (65535 + Int.tmod n 2) = 65535 + Int.tmod n 2 := by unfold wrap64; omega
  by_cases c : a = 79
  · obtain ⟨s, es, hs⟩ := longOk ⟨#[105, 110]⟩ (by decide) (by decide) 65536 (65535 + Int.tmod n 2) (by omega) (by omega) k (by omega)
    have z : ((⟨#[105, 110]⟩ : ByteArray).size : Int) = 2 := rfl
    rw [if_pos c, ew, es, Option.bind_some]
    exact ⟨s, _, rfl, by omega, by omega, by omega⟩
  rw [if_neg c]
  by_cases c2 : a < 8
  · rw [if_pos c2]
    exact ⟨_, _, rfl, show 0 ≤ 65540 by omega, by omega, by omega⟩
  · obtain ⟨s, es, hs⟩ := bytesOk l (p + 1 + 1) n k (by omega) (by omega) (by omega) (by omega)
    rw [if_neg c2, es, Option.bind_some]
    exact ⟨s, _, rfl, by omega, by omega, by omega⟩
end Go.Proofs.YtfonhiakelmhhaaDoor.P
end
section
namespace Go.Proofs.YtfonhiakelmhhaaDoor.P
open Go.RowKit Go.Proofs.YtfonhiakelmhhaaDoorW.PrintWords Go.Proofs.YtfonhiakelmhhaaDoorW.PrintLast Go.Proofs.YtfonhiakelmhhaaDoorW.PrintMore
set_option linter.unusedVariables false
set_option linter.unusedSimpArgs false
theorem bt_nat' (s : ByteArray) (n : Nat) : bt s (n : Int) = (bytesOf s).getD n 0 := by
  unfold bt bytesOf
  rw [List.getD_eq_getElem?_getD, List.getElem?_map, Array.getElem?_toList]
  by_cases h : n < s.size
  · rw [dif_pos (by rw [Int.toNat_natCast]; exact h), Array.getElem?_eq_getElem (show n < s.data.size from h)]
    simp only [Int.toNat_natCast]
    rfl
  · rw [dif_neg (by rw [Int.toNat_natCast]; exact h), Array.getElem?_eq_none (by show s.data.size ≤ n; have : s.size = s.data.size := rfl; omega)]
    rfl
end Go.Proofs.YtfonhiakelmhhaaDoor.P
end
section
namespace Go.Proofs.YtfonhiakelmhhaaDoor.P
open Go.RowKit Go.Proofs.YtfonhiakelmhhaaDoorW.PrintWords Go.Proofs.YtfonhiakelmhhaaDoorW.PrintLast Go.Proofs.YtfonhiakelmhhaaDoorW.PrintMore
set_option linter.unusedVariables false
set_option linter.unusedSimpArgs false
def redL (m : Int) : List Int → Int → Int
  | [], x => x
  | b :: l, x => redL m l ((256 * x + b) % m)
theorem drop_getD (l : List Int) (n : Nat) (h : n < l.length) : l.drop n = l.getD n 0 :: l.drop (n + 1) := by
  rw [List.drop_eq_getElem_cons h, List.getD_eq_getElem?_getD, List.getElem?_eq_getElem h]
  rfl
theorem imAll (x0 : ByteArray) (m : Int) (hm : 0 < m) (h4 : m < 18446744073709551616) (hs : x0.size ≤ 65535) : ∀ d n k x, n + d = x0.size → d + 1 ≤ k → 0 ≤ x → x < m →
    impl_Reduce.l0 k x0 m x (x0.size : Int) (n : Int) = some (redL m ((bytesOf x0).drop n) x) := by
  intro d
  induction d with
  | zero =>
    intro n k x hn hk h0 h1
    obtain ⟨k, rfl⟩ : ∃ j, k = j + 1 := ⟨k - 1, by omega⟩
    rw [impl_Reduce.l0, if_neg (by omega), List.drop_eq_nil_of_le (by rw [bytesOf_length]; omega)]
    rfl
  | succ d ih =>
    intro n k x hn hk h0 h1
    obtain ⟨k, rfl⟩ : ∃ j, k = j + 1 := ⟨k - 1, by omega⟩
    have hb := bt_range x0 (n : Int)
    have i4 : wrap64 ((n : Int) + 1) = ((n + 1 : Nat) : Int) := by unfold wrap64; omega
    have e1 : IntKind.u64.wrap (x * 256) = (x % 72057594037927936) * 256 := by rw [IntKind.wrap_u64]; omega
    have e2 : IntKind.u64.wrap (bt x0 (n : Int)) = bt x0 (n : Int) := by rw [IntKind.wrap_u64]; omega
    have eor : Go.bits .or .u64 ((x % 72057594037927936) * 256) (bt x0 (n : Int)) = (x % 72057594037927936) * 256 + bt x0 (n : Int) := or_low (k := 8) (by decide) (by omega) (by omega) (by omega) hb.1 (by omega)
    have ed : bits_Div64.f (x / 72057594037927936) ((x % 72057594037927936) * 256 + bt x0 (n : Int)) m = some ((256 * x + bt x0 (n : Int)) / m, (256 * x + bt x0 (n : Int)) % m) := by
      unfold bits_Div64.f
      rw [if_pos (by omega), show x / 72057594037927936 * 18446744073709551616 + (x % 72057594037927936 * 256 + bt x0 (n : Int)) = 256 * x + bt x0 (n : Int) by omega]
    rw [impl_Reduce.l0, if_pos (by omega), if_pos (Int.natCast_nonneg _), if_pos (by omega), e1, e2, eor, ed, Option.bind_some, i4, drop_getD _ _ (by rw [bytesOf_length]; omega), ← bt_nat']
    exact ih (n + 1) k _ (by omega) (by omega) (Int.emod_nonneg _ (by omega)) (Int.emod_lt_of_pos _ hm)
def redS (s : ByteArray) (m : Int) : Int := redL m (bytesOf s) 0
theorem imReduce (s : ByteArray) (m : Int) (k : Nat) (hm : 0 < m) (h4 : m < 18446744073709551616) (hs : s.size ≤ 65535) (hk : s.size + 2 ≤ k) : impl_Reduce.f k s m = some (redS s m) := by
  obtain ⟨k, rfl⟩ : ∃ j, k = j + 1 := ⟨k - 1, by omega⟩
  unfold impl_Reduce.f
  rw [if_neg (by omega), decide_eq_false (by omega), impl_Reduce.j0, if_neg (by decide)]
  exact imAll s m hm h4 hs s.size 0 k 0 (by omega) (by omega) (by omega) hm
end Go.Proofs.YtfonhiakelmhhaaDoor.P
end
section
namespace Go.Proofs.YtfonhiakelmhhaaDoor.P
open Go.RowKit Go.Proofs.YtfonhiakelmhhaaDoorW.PrintWords Go.Proofs.YtfonhiakelmhhaaDoorW.PrintLast Go.Proofs.YtfonhiakelmhhaaDoorW.PrintMore
set_option linter.unusedVariables false
set_option linter.unusedSimpArgs false
def redF (s : ByteArray) (m : Int) (i : Nat) : Nat → List Int
  | 0 => []
  | n + 1 => redS (s.extract (24 * i) (24 * i + 24)) m :: redF s m (i + 1) n
theorem imFields (s : ByteArray) (m : Int) (hm : 0 < m) (h4 : m < 18446744073709551616) (c : Nat) (hc : c ≤ 340) (hs : s.size = 24 * c) : ∀ d i k acc, i + d = c → d + 300 ≤ k → acc.length ≤ i →
    impl_HashToField.l0 k m (s.extract (24 * i) s.size) acc = some (acc ++ redF s m i d, true) := by
  intro d
  induction d with
  | zero =>
    intro i k acc hi hk ha
    obtain ⟨k, rfl⟩ : ∃ j, k = j + 1 := ⟨k - 1, by omega⟩
    have z : (s.extract (24 * i) s.size).size = 0 := by rw [ByteArray.size_extract]; omega
    have e : (s.extract (24 * i) s.size).toList = [] := by rw [ByteArray.toList_eq]; exact List.eq_nil_of_length_eq_zero (by simpa using z)
    rw [impl_HashToField.l0, if_pos e, redF, List.append_nil]
  | succ d ih =>
    intro i k acc hi hk ha
    obtain ⟨k, rfl⟩ : ∃ j, k = j + 1 := ⟨k - 1, by omega⟩
    have z0 : (s.extract (24 * i) s.size).size = s.size - 24 * i := by rw [ByteArray.size_extract]; omega
    have ne : ¬ (s.extract (24 * i) s.size).toList = [] := by
      intro e
      rw [ByteArray.toList_eq] at e
      have := congrArg List.length e
      have h0 : (s.extract (24 * i) s.size).data.toList.length = (s.extract (24 * i) s.size).size := rfl
      rw [h0, z0] at this
      simp at this
      omega
    have x1 : (s.extract (24 * i) s.size).extract 0 24 = s.extract (24 * i) (24 * i + 24) := by rw [ByteArray.extract_extract]; congr 1; omega
    have x2 : (s.extract (24 * i) s.size).extract 24 (s.extract (24 * i) s.size).size = s.extract (24 * (i + 1)) s.size := by rw [z0, ByteArray.extract_extract]; congr 1; omega
    have z : (s.extract (24 * i) (24 * i + 24)).size = 24 := by rw [ByteArray.size_extract]; omega
    rw [impl_HashToField.l0, if_neg ne, if_pos (by omega), if_pos (by omega), x1, x2, imReduce _ m k hm h4 (by omega) (by omega), Option.bind_some, if_pos (by omega), ih (i + 1) k _ (by omega) (by omega) (by rw [List.length_append]; show acc.length + 1 ≤ _; omega), redF, List.append_assoc]
    rfl
theorem xmdS_size (msg tag : ByteArray) (n : Int) (h0 : 0 ≤ n) : (xmdS msg tag n).size = n.toNat := by
  rw [xmdS, strOfNums_size, List.length_take, xAll_length]
  omega
def htfS (msg tag : ByteArray) (m count : Int) : List Int × Bool :=
  if count < 1 then ([], false) else if 340 < count then ([], false) else if m = 0 then ([], false) else
    if tag.size < 1 then ([], false) else if 255 < tag.size then ([], false) else if 65535 < msg.size then ([], false) else (redF (xmdS msg tag (24 * count)) m 0 count.toNat, true)
theorem imHtf (a0 a1 : ByteArray) (m c : Int) (k : Nat) (h0 : a0.size ≤ 1048576) (h1 : a1.size ≤ 1048576) (hm : 0 ≤ m) (h4 : m < 18446744073709551616) (hk : 20000 ≤ k) : impl_HashToField.f k a0 a1 m c = some (htfS a0 a1 m c) := by
  obtain ⟨k, rfl⟩ : ∃ j, k = j + 1 := ⟨k - 1, by omega⟩
  have no : impl_HashToField.j0 (k + 1) a0 a1 m c true = some ([], false) := by rw [impl_HashToField.j0, if_pos rfl]
  unfold impl_HashToField.f htfS
  rw [no]
  by_cases c1 : c < 1
  · rw [if_pos c1, if_pos c1]
  rw [if_neg c1, if_neg c1]
  by_cases c2 : 340 < c
  · rw [if_pos c2, if_pos c2]
  rw [if_neg c2, if_neg c2]
  by_cases c3 : m = 0
  · rw [show (m == 0) = true from beq_iff_eq.2 c3, no, if_pos c3]
  rw [show (m == 0) = false from beq_eq_false_iff_ne.2 c3, if_neg c3, impl_HashToField.j0, if_neg (by decide), show wrap64 (24 * c) = 24 * c from by unfold wrap64; omega]
  unfold impl_ExpandMessage.f
  rw [if_pos (by omega)]
  by_cases t1 : a1.size < 1
  · rw [if_pos t1, if_pos t1, Option.bind_some, if_neg (by decide)]
  rw [if_neg t1, if_neg t1]
  by_cases t2 : 255 < a1.size
  · rw [if_pos t2, if_pos t2, Option.bind_some, if_neg (by decide)]
  rw [if_neg t2, if_neg t2, if_neg (by omega), if_neg (by omega)]
  by_cases t3 : 65535 < a0.size
  · rw [if_pos t3, if_pos t3, Option.bind_some, if_neg (by decide)]
  rw [if_neg t3, if_neg t3, Option.bind_some, if_pos rfl]
  obtain ⟨n, rfl⟩ : ∃ n : Nat, c = n := ⟨c.toNat, by omega⟩
  have e := imFields (xmdS a0 a1 (24 * (n : Int))) m (by omega) h4 n (by omega) (by rw [xmdS_size _ _ _ (by omega)]; omega) n 0 k [] (by omega) (by omega) (by simp)
  rw [show (xmdS a0 a1 (24 * (n : Int))).extract (24 * 0) (xmdS a0 a1 (24 * (n : Int))).size = xmdS a0 a1 (24 * (n : Int)) from ByteArray.extract_zero_size] at e
  exact e
end Go.Proofs.YtfonhiakelmhhaaDoor.P
end
section
namespace Go.Proofs.YtfonhiakelmhhaaDoor.P
open Go.RowKit Go.Proofs.YtfonhiakelmhhaaDoorW.PrintWords Go.Proofs.YtfonhiakelmhhaaDoorW.PrintLast Go.Proofs.YtfonhiakelmhhaaDoorW.PrintMore
set_option linter.unusedVariables false
set_option linter.unusedSimpArgs false
theorem drawShaLoop (l : List Int) (n : Int) (hn1 : n ≤ 100000) : ∀ (d k : Nat) (p : Int) (acc : List Int) (i : Nat), (i : Int) + d = n → d + 2 ≤ k → 0 ≤ p → p + d ≤ 1000000 → acc.length = i →
    ∃ s, spec_DrawSha256.l0 k l n p acc (i : Int) = some s ∧ (s.size : Int) = n := by
  intro d
  induction d with
  | zero =>
    intro k p acc i hi hk hp hp1 ha
    obtain ⟨k, rfl⟩ : ∃ j, k = j + 1 := ⟨k - 1, by omega⟩
    rw [spec_DrawSha256.l0, if_neg (by omega)]
    exact ⟨_, rfl, by rw [strOfNums_size]; omega⟩
  | succ d ih =>
    intro k p acc i hi hk hp hp1 ha
    obtain ⟨k, rfl⟩ : ∃ j, k = j + 1 := ⟨k - 1, by omega⟩
    obtain ⟨a, ea, _, _⟩ := takeOk l p 256 k (by omega) hp (by omega) (by omega) (by omega)
    rw [spec_DrawSha256.l0, if_pos (by omega), ea, Option.bind_some, if_pos (by omega), show wrap64 ((i : Int) + 1) = ((i + 1 : Nat) : Int) from by unfold wrap64; omega]
    exact ih k (p + 1) (acc ++ [a % 256]) (i + 1) (by omega) (by omega) (by omega) (by omega) (by rw [List.length_append]; show acc.length + 1 = _; omega)
theorem drawShaJ (l : List Int) (n p : Int) (k : Nat) (hn1 : n ≤ 1000) (hk : 2000 ≤ k) (hp : 0 ≤ p) (hp1 : p ≤ 1000) : ∃ s, spec_DrawSha256.j0 k l n p = some s ∧ s.size ≤ 1000 := by
  obtain ⟨k, rfl⟩ : ∃ j, k = j + 1 + 1 := ⟨k - 2, by omega⟩
  rw [spec_DrawSha256.j0]
  by_cases h : 0 ≤ n
  · obtain ⟨s, es, hs⟩ := drawShaLoop l n (by omega) n.toNat (k + 1) p [] 0 (by omega) (by omega) hp (by omega) rfl
    exact ⟨s, es, by omega⟩
  · rw [spec_DrawSha256.l0, if_neg (by omega)]
    exact ⟨_, rfl, by rw [strOfNums_size]; exact Nat.zero_le _⟩
theorem drawSha (l : List Int) (k : Nat) (hk : 600000 ≤ k) : ∃ s, spec_DrawSha256.f k l = some s ∧ s.size ≤ 1000 := by
  unfold spec_DrawSha256.f
  obtain ⟨a, ea, ha0, ha1⟩ := takeOk l 0 4 k (by omega) (by omega) (by omega) (by omega) (by omega)
  obtain ⟨n, en, hn0, hn1⟩ := takeOk l (0 + 1) 20 k (by omega) (by omega) (by omega) (by omega) (by omega)
  have t := tmod_lt n 12 (by omega)
  rw [ea, Option.bind_some, en, Option.bind_some]
  by_cases c : a < 3
  · rw [if_pos c, show wrap64 (wrap64 (54 + wrap64 (64 * a)) + Int.tmod n 12) = 54 + 64 * a + Int.tmod n 12 from by unfold wrap64; omega]
    exact drawShaJ l _ _ k (by omega) (by omega) (by omega) (by omega)
  · rw [if_neg c]
    exact drawShaJ l _ _ k (by omega) (by omega) (by omega) (by omega)
theorem drawHmac (l : List Int) (k : Nat) (hk : 600000 ≤ k) : ∃ key s, spec_DrawHmac.f k l = some (key, s) ∧ key.size ≤ 1000 ∧ s.size ≤ 65540 := by
  unfold spec_DrawHmac.f
  obtain ⟨a, ea, ha0, ha1⟩ := takeOk l 0 70 k (by omega) (by omega) (by omega) (by omega) (by omega)
  rw [ea, Option.bind_some]
  obtain ⟨key, ek, hk2⟩ := bytesOk l (0 + 1) a k (by omega) (by omega) (by omega) (by omega)
  rw [ek, Option.bind_some]
  obtain ⟨s, q, es, hs, hq0, hq1⟩ := someOk l (0 + 1 + (a.toNat : Int)) k hk (by omega) (by omega)
  rw [es, Option.bind_some]
  exact ⟨key, s, rfl, by omega, hs⟩
theorem drawExpand (l : List Int) (k : Nat) (hk : 600000 ≤ k) : ∃ key info n, spec_DrawExpand.f k l = some (key, info, n) ∧ key.size ≤ 1000 ∧ info.size ≤ 65540 := by
  unfold spec_DrawExpand.f
  obtain ⟨a, ea, ha0, ha1⟩ := takeOk l 0 20 k (by omega) (by omega) (by omega) (by omega) (by omega)
  rw [ea, Option.bind_some]
  obtain ⟨key, ek, hk2⟩ := bytesOk l (0 + 1) 32 k (by omega) (by omega) (by omega) (by omega)
  rw [ek, Option.bind_some]
  obtain ⟨s, q, es, hs, hq0, hq1⟩ := someOk l (0 + 1 + ((32 : Int).toNat : Int)) k hk (by omega) (by omega)
  rw [es, Option.bind_some]
  obtain ⟨n, en, hn0, hn1⟩ := takeOk l q 200 k (by omega) hq0 (by omega) (by omega) (by omega)
  rw [en, Option.bind_some]
  have z : key.size ≤ 1000 := by rw [hk2]; decide
  by_cases c1 : a = 18
  · rw [if_pos c1]; exact ⟨_, _, _, rfl, z, hs⟩
  rw [if_neg c1]
  by_cases c2 : a = 19
  · rw [if_pos c2]; exact ⟨_, _, _, rfl, z, hs⟩
  · rw [if_neg c2]; exact ⟨_, _, _, rfl, z, hs⟩
theorem drawTag (l : List Int) (p : Int) (k : Nat) (hk : 600000 ≤ k) (hp : 0 ≤ p) (hp1 : p ≤ 400000) : ∃ s q, spec_l4DrawTag.f k l p = some (s, q) ∧ s.size ≤ 1000 ∧ 0 ≤ q ∧ q ≤ p + 50 := by
  unfold spec_l4DrawTag.f
  obtain ⟨a, ea, ha0, ha1⟩ := takeOk l p 20 k (by omega) hp (by omega) (by omega) (by omega)
  obtain ⟨n, en, hn0, hn1⟩ := takeOk l (p + 1) 30 k (by omega) (by omega) (by omega) (by omega) (by omega)
  rw [ea, Option.bind_some, en, Option.bind_some]
  have t := tmod_lt n 2 (by omega)
  by_cases c1 : a = 18
  · obtain ⟨s, es, hs⟩ := longOk ⟨#[116, 97, 103]⟩ (by decide) (by decide) 256 (255 + Int.tmod n 2) (by omega) (by omega) k (by omega)
    have z : ((⟨#[116, 97, 103]⟩ : ByteArray).size : Int) = 3 := rfl
    rw [if_pos c1, show wrap64 (255 + Int.tmod n 2) = 255 + Int.tmod n 2 from by unfold wrap64; omega, es, Option.bind_some]
    exact ⟨s, _, rfl, by omega, by omega, by omega⟩
  rw [if_neg c1]
  by_cases c2 : a = 19
  · rw [if_pos c2]; exact ⟨_, _, rfl, show 0 ≤ 1000 by omega, by omega, by omega⟩
  · rw [if_neg c2, show wrap64 (n + 1) = n + 1 from by unfold wrap64; omega]
    obtain ⟨s, es, hs⟩ := bytesOk l (p + 1 + 1) (n + 1) k (by omega) (by omega) (by omega) (by omega)
    rw [es, Option.bind_some]
    exact ⟨s, _, rfl, by omega, by omega, by omega⟩
theorem drawExpandMessage (l : List Int) (k : Nat) (hk : 600000 ≤ k) : ∃ msg tag n, spec_DrawExpandMessage.f k l = some (msg, tag, n) ∧ msg.size ≤ 65540 ∧ tag.size ≤ 1000 := by
  unfold spec_DrawExpandMessage.f
  obtain ⟨a, ea, ha0, ha1⟩ := takeOk l 0 20 k (by omega) (by omega) (by omega) (by omega) (by omega)
  rw [ea, Option.bind_some]
  obtain ⟨s, q, es, hs, hq0, hq1⟩ := someOk l (0 + 1) k hk (by omega) (by omega)
  rw [es, Option.bind_some]
  obtain ⟨t, r, et, ht, hr0, hr1⟩ := drawTag l q k hk hq0 (by omega)
  rw [et, Option.bind_some]
  obtain ⟨n, en, hn0, hn1⟩ := takeOk l r 200 k (by omega) hr0 (by omega) (by omega) (by omega)
  rw [en, Option.bind_some]
  by_cases c1 : a = 18
  · rw [if_pos c1]; exact ⟨_, _, _, rfl, hs, ht⟩
  rw [if_neg c1]
  by_cases c2 : a = 19
  · rw [if_pos c2]; exact ⟨_, _, _, rfl, hs, ht⟩
  · rw [if_neg c2]; exact ⟨_, _, _, rfl, hs, ht⟩
theorem pick0 (l : List Int) (hl : ∀ x ∈ l, 0 ≤ x ∧ x ≤ 255) (i : Int) (hi : 0 ≤ i) (hi1 : i ≤ 1000) : ∃ a, laws_wPick.f l i = some a ∧ 0 ≤ a ∧ a ≤ 1000 := by
  unfold laws_wPick.f
  by_cases c : (l.length : Int) = 0
  · rw [if_pos c]; exact ⟨_, rfl, hi, hi1⟩
  · have h1 := Int.tmod_nonneg (l.length : Int) hi
    have h2 := Int.tmod_lt_of_pos i (show (0 : Int) < (l.length : Int) by omega)
    rw [if_neg c, if_pos h1, if_pos h2]
    have hr : 0 ≤ rd l (Int.tmod i (l.length : Int)) ∧ rd l (Int.tmod i (l.length : Int)) ≤ 255 := by
      unfold rd
      rw [List.getD_eq_getElem?_getD, List.getElem?_eq_getElem (by omega)]
      exact hl _ (List.getElem_mem _)
    exact ⟨_, rfl, by unfold wrap64; omega, by unfold wrap64; omega⟩
theorem expandS_extract (key info : ByteArray) (n m : Int) (h0 : 0 ≤ m) (h1 : m ≤ n) : (expandS key info n).extract 0 m.toNat = expandS key info m := by
  unfold expandS
  rw [strOfNums_extract, List.take_take, show min m.toNat n.toNat = m.toNat from Nat.min_eq_left (by omega), exAll_prefix key info ((m.toNat + 31) / 32) ((n.toNat + 31) / 32) m.toNat (by omega) (by omega)]
theorem expandS_size (key info : ByteArray) (n : Int) : (expandS key info n).size = n.toNat := by
  unfold expandS
  rw [strOfNums_size, List.length_take, exAll_length]
  omega
theorem hash5 (msg tag : ByteArray) (k : Nat) (hm : msg.size ≤ 65540) (ht : tag.size ≤ 1000) (hk : 20002 ≤ k) : laws_FnHash.j5 k msg tag false = some true := by
  obtain ⟨k, rfl⟩ : ∃ j, k = j + 1 := ⟨k - 1, by omega⟩
  rw [laws_FnHash.j5, if_neg (by decide), imHtf msg tag 2305843009213693951 1 k (by omega) (by omega) (by omega) (by omega) (by omega)]
  unfold impl_ExpandMessage.f htfS
  rw [if_pos (by omega), if_neg (show ¬ (1 : Int) < 1 by decide), if_neg (show ¬ (340 : Int) < 1 by decide), if_neg (show ¬ (2305843009213693951 : Int) = 0 by decide), Option.bind_some, Option.bind_some]
  by_cases t1 : tag.size < 1
  · rw [if_pos t1, if_pos t1]; rfl
  rw [if_neg t1, if_neg t1]
  by_cases t2 : 255 < tag.size
  · rw [if_pos t2, if_pos t2]; rfl
  rw [if_neg t2, if_neg t2, if_neg (show ¬ (24 : Int) < 1 by decide), if_neg (show ¬ (8160 : Int) < 24 by decide)]
  by_cases t3 : 65535 < msg.size
  · rw [if_pos t3, if_pos t3]; rfl
  rw [if_neg t3, if_neg t3]
  have hz : (xmdS msg tag 24).size = 24 := by rw [xmdS_size _ _ _ (by decide)]; rfl
  have e24 : (24 * 1 : Int) = 24 := rfl
  dsimp only
  rw [if_neg (by decide), if_pos rfl, e24, show (1 : Int).toNat = 1 from rfl, redF, redF, if_pos (show (([redS ((xmdS msg tag 24).extract (24 * 0) (24 * 0 + 24)) 2305843009213693951].length : Nat) : Int) = 1 from rfl), if_pos (show (0 : Int) < (([redS ((xmdS msg tag 24).extract (24 * 0) (24 * 0 + 24)) 2305843009213693951].length : Nat) : Int) from by show (0 : Int) < ((1 : Nat) : Int); decide), imReduce _ _ k (by decide) (by decide) (by omega) (by omega), Option.bind_some]
  have ex : (xmdS msg tag 24).extract (24 * 0) (24 * 0 + 24) = xmdS msg tag 24 := by
    have : (xmdS msg tag 24).extract 0 (xmdS msg tag 24).size = xmdS msg tag 24 := ByteArray.extract_zero_size
    rw [hz] at this
    exact this
  rw [ex]
  unfold rd
  simp
theorem hash4 (l : List Int) (k : Nat) (hk : 600003 ≤ k) : laws_FnHash.j4 k l = some true := by
  obtain ⟨k, rfl⟩ : ∃ j, k = j + 1 := ⟨k - 1, by omega⟩
  obtain ⟨msg, tag, n, e, hm, ht⟩ := drawExpandMessage l k (by omega)
  rw [laws_FnHash.j4, e, Option.bind_some]
  dsimp only
  rw [spExpand msg tag n k (by omega) (by omega) (by omega)]
  unfold impl_ExpandMessage.f
  rw [if_pos (by omega), Option.bind_some, Option.bind_some]
  by_cases t1 : tag.size < 1
  · rw [if_pos t1, if_neg (by decide), if_neg (by decide)]; exact hash5 msg tag k hm ht (by omega)
  rw [if_neg t1]
  by_cases t2 : 255 < tag.size
  · rw [if_pos t2, if_neg (by decide), if_neg (by decide)]; exact hash5 msg tag k hm ht (by omega)
  rw [if_neg t2]
  by_cases t3 : n < 1
  · rw [if_pos t3, if_neg (by decide), if_neg (by decide)]; exact hash5 msg tag k hm ht (by omega)
  rw [if_neg t3]
  by_cases t4 : 8160 < n
  · rw [if_pos t4, if_neg (by decide), if_neg (by decide)]; exact hash5 msg tag k hm ht (by omega)
  rw [if_neg t4]
  by_cases t5 : 65535 < msg.size
  · rw [if_pos t5, if_neg (by decide), if_neg (by decide)]; exact hash5 msg tag k hm ht (by omega)
  rw [if_neg t5, if_neg (show ¬ (true != true) = true by decide), if_pos rfl, show (((xmdS msg tag n).size : Int) != n) = false from by rw [xmdS_size _ _ _ (by omega)]; simp; omega]
  exact hash5 msg tag k hm ht (by omega)
theorem imExpandAt (key info : ByteArray) (n : Int) (h0 : key.size ≤ 1000000) (h1 : info.size ≤ 1000000) : impl_Expand.f key info n = some (if n < 0 then (⟨#[]⟩, false) else if 8160 < n then (⟨#[]⟩, false) else (expandS key info n, true)) := by
  unfold impl_Expand.f
  rw [if_pos (by omega)]
theorem hash1 (l0 l1 : List Int) (k : Nat) (hk : 700000 ≤ k) (hl : ∀ x ∈ l1, 0 ≤ x ∧ x ≤ 255) : laws_FnHash.j1 k l0 l1 false = some true := by
  obtain ⟨k, rfl⟩ : ∃ j, k = j + 1 + 1 + 1 := ⟨k - 3, by omega⟩
  obtain ⟨key, info, n, e, hz, hi⟩ := drawExpand l0 (k + 1 + 1) (by omega)
  rw [laws_FnHash.j1, if_neg (by decide), e, Option.bind_some]
  dsimp only
  rw [spExpand2 key info n (k + 1 + 1) (by omega) (by omega) (by omega), imExpandAt key info n (by omega) (by omega), Option.bind_some, Option.bind_some, if_pos rfl]
  have h4 := hash4 l0 k (by omega)
  have no : ∀ s : ByteArray, laws_FnHash.j2 (k + 1 + 1) l0 l1 key info n false s (false != false) = some true := by
    intro s
    rw [laws_FnHash.j2, if_neg (by decide), if_neg (by decide), laws_FnHash.j3, if_neg (by decide)]
    exact h4
  by_cases c1 : n < 0
  · rw [if_pos c1]; exact no _
  rw [if_neg c1]
  by_cases c2 : 8160 < n
  · rw [if_pos c2]; exact no _
  rw [if_neg c2]
  dsimp only
  rw [laws_FnHash.j2, if_neg (by decide), if_pos rfl, laws_FnHash.j3]
  by_cases c3 : n > 0
  · obtain ⟨a, ea, ha0, ha1⟩ := pick0 l1 hl 0 (by omega) (by omega)
    obtain ⟨b, eb, hb0, hb1⟩ := pick0 l1 hl 1 (by omega) (by omega)
    have ew : wrap64 (wrap64 (a * 256) + b) = a * 256 + b := by unfold wrap64; omega
    have m0 : 0 ≤ Int.tmod (a * 256 + b) n := Int.tmod_nonneg _ (by omega)
    have m1 := Int.tmod_lt_of_pos (a * 256 + b) c3
    rw [if_pos (decide_eq_true c3), ea, Option.bind_some, eb, Option.bind_some, if_neg (by omega), ew, imExpandAt key info (Int.tmod (a * 256 + b) n) (by omega) (by omega), Option.bind_some, if_neg (show ¬ Int.tmod (a * 256 + b) n < 0 by omega), if_neg (show ¬ 8160 < Int.tmod (a * 256 + b) n by omega)]
    dsimp only
    rw [if_pos rfl, if_pos m0, if_pos (by rw [expandS_size]; omega), expandS_extract _ _ _ _ m0 (by omega), if_pos rfl]
    exact h4
  · rw [if_neg (by simpa using c3)]
    exact h4
theorem FnHash_pure : laws_FnHash.Pure := by
  intro l0 l1 m0 w0 b0 m1 w1 b1
  have hl : ∀ x ∈ l1, 0 ≤ x ∧ x ≤ 255 := by
    intro x hx
    have := b1 x hx
    simp [Lit.wf, IntKind.min, IntKind.max, IntKind.signed, IntKind.bits] at this
    omega
  refine ⟨800001, ?_⟩
  have no : laws_FnHash.j0 800001 l0 l1 true = some true := by rw [laws_FnHash.j0, if_pos rfl]
  unfold laws_FnHash.f
  by_cases h0 : (l0.length : Int) > 1048576
  · rw [if_pos h0, no]
  rw [if_neg h0]
  by_cases h1 : (l1.length : Int) > 1048576
  · rw [decide_eq_true h1, no]
  rw [decide_eq_false h1, laws_FnHash.j0, if_neg (by decide)]
  obtain ⟨s, es, hs⟩ := drawSha l0 800000 (by omega)
  obtain ⟨key, t, et, hk, ht⟩ := drawHmac l0 800000 (by omega)
  have e1 : impl_Sha256.f s = some (shaS (bytesOf s)) := by unfold impl_Sha256.f; rw [if_pos (by omega)]
  have e2 : impl_Hmac.f key t = some (hmacL key (bytesOf t)) := by unfold impl_Hmac.f hmacF; rw [if_pos (by omega)]
  rw [es, Option.bind_some, et, Option.bind_some, e1, Option.bind_some, spSha s 800000 (by omega) (by omega), Option.bind_some, if_pos rfl]
  dsimp only
  rw [e2, Option.bind_some, spHmac key t 800000 (by omega) (by omega) (by omega) (by omega), Option.bind_some, show ((hmacL key (bytesOf t)).toList != (hmacL key (bytesOf t)).toList) = false from by simp]
  exact hash1 l0 l1 800000 (by omega) hl
theorem FnHash_walk (a0 : Option Addr) (len0 cap0 : Nat) (z0 : List Int) (a1 : Option Addr) (len1 cap1 : Nat) (z1 : List Int) (w : World) (w0 : (a0 = none ∧ len0 = 0 ∧ cap0 = 0 ∧ z0 = []) ∨ ∃ x, a0 = some x ∧ len0 ≤ cap0 ∧ cap0 ≤ maxLen ∧ z0.length = cap0 ∧ (∀ i, i < z0.length → w.cell? (x.add i) = some (.int .u8 (z0.getD i 0))) ∧ ∀ n ∈ z0, (Lit.int .u8 n).wf = true) (y0 : len0 * 1 ≤ 140737488351232) (w1 : (a1 = none ∧ len1 = 0 ∧ cap1 = 0 ∧ z1 = []) ∨ ∃ x, a1 = some x ∧ len1 ≤ cap1 ∧ cap1 ≤ maxLen ∧ z1.length = cap1 ∧ (∀ i, i < z1.length → w.cell? (x.add i) = some (.int .u8 (z1.getD i 0))) ∧ ∀ n ∈ z1, (Lit.int .u8 n).wf = true) (y1 : len1 * 1 ≤ 140737488351232) (hG : Glob w) :
    Calls Tryd.prog 5 #[.slice a0 len0 cap0, .slice a1 len1 cap1] w fun e w' => e = .returned (.bool true) ∧ Below w.heap.size w w' := laws_FnHash.walk FnHash_pure a0 len0 cap0 z0 a1 len1 cap1 z1 w w0 y0 w1 y1 hG
end Go.Proofs.YtfonhiakelmhhaaDoor.P
end
section
namespace Go.Proofs.YtfonhiakelmhhaaDoor.fnHash
open Go.ChangeShapes Go.WideShapes Go.ChangeAt Go.RowKit
open Go.ChangeMaps (open_string shut_string)
set_option linter.unusedVariables false
set_option linter.unusedSimpArgs false
theorem own : ownKnob Tryd.prog.godebug = none := by kernel_rfl
theorem g_roundWords : Tryd.prog.globalNamed "loop.example/s02095/impl.roundWords" = some 3 := by kernel_rfl
theorem ty_roundWords : (Tryd.prog.globals[3]?).map (·.type) = some 206 := by kernel_rfl
theorem cells_a : Tryd.prog.cellsOf 206 = 64 := by kernel_rfl
theorem cells_e : Tryd.prog.cellsOf 103 = 1 := by kernel_rfl
def c_roundWords : Array Value := (P.roundK.map fun z => Value.int .u32 z).toArray
abbrev d_roundWords {H : Type} : DataW H := .agg (P.roundK.map fun z => .lit (.int .u32 z))
theorem reads_roundWords {H : Type} (enc : TypeId × Value → H) (W : World) (sp : Nat → Bool) : DataW.trod enc Tryd.prog W 0 sp true 3 206 c_roundWords.toList = some (d_roundWords, []) := by kernel_rfl
theorem var_roundWords {W : World} (h : laidMetH Tryd.prog Rows.fnHashRow.laid W) : W.var? Tryd.prog "loop.example/s02095/impl.roundWords" = some c_roundWords := by
  have h0 : laidMet Tryd.prog Rows.fnHashRow.laid W := h
  exact Lib.tabIs_of_head (k := .u32) (zs := P.roundK) g_roundWords ty_roundWords Tryd.underlying206 Tryd.underlying103 cells_e cells_a h0
theorem glob_roundWords {W : World} (h : laidMetH Tryd.prog Rows.fnHashRow.laid W) : P.Glob W := by
  have hv := var_roundWords h
  refine ⟨?_, fun i hi => ?_⟩
  · have c := World.var?_cell g_roundWords hv 0
    exact World.block_lt_of_cell? _ _ c
  · have c := World.var?_cell g_roundWords hv i
    rw [c, c_roundWords, List.getElem?_toArray, List.getElem?_map, List.getElem?_eq_getElem (by rw [P.roundK_length]; exact hi), Option.map_some, List.getD_eq_getElem?_getD, List.getElem?_eq_getElem (by rw [P.roundK_length]; exact hi)]
    rfl
theorem laidOut : laidOutB Tryd.prog = true := by kernel_rfl
def IsRow (k : IntKind) (w : World) (a : Option Addr) (len cap : Nat) (zs : List Int) : Prop :=
  (a = none ∧ len = 0 ∧ cap = 0 ∧ zs = []) ∨
  ∃ x, a = some x ∧ len ≤ cap ∧ cap ≤ maxLen ∧ zs.length = cap ∧ (∀ i, i < zs.length → w.cell? (x.add i) = some (.int k (zs.getD i 0))) ∧ ∀ n ∈ zs, (Lit.int k n).wf = true
set_option maxRecDepth 100000 in
theorem contract (H : Type) (enc : TypeId × Value → H) (W : World) (base : Nat) (args : Array Value) (ds gs : List (DataW H)) (before : List MemPlace)
    (hval0 : ∀ (j : Nat) t v, Tryd.f5.params[j]? = some t → args[j]? = some v → Value.okWide Tryd.prog W .any base t v)
    (hW : DataW.Whole enc Tryd.prog Tryd.f5.params.toList Rows.fnHashSpec.vars false W args.toList ds gs before)
    (hsz0 : (DataW.weightsEach Tryd.prog (Tryd.f5.params.toList ++ Rows.fnHashSpec.plain.varTypes Tryd.prog) (ds ++ gs)).all (· ≤ reachBytes) = true) (hL : laidMetH Tryd.prog Rows.fnHashRow.laid W) :
    Calls Tryd.prog 5 args W fun e W' => ∃ v, e = .returned v ∧ Rows.fnHashSpec.post enc Tryd.prog Tryd.f5 false true false false W args v W' := by
  have hval : ∀ (j : Nat) t v, Tryd.f5.params[j]? = some t → args[j]? = some v → Value.okWide Tryd.prog W .any base t v := hval0
  have hsz := hsz0
  have hW' := hW
  obtain ⟨p, q, hA0, hV0, rfl, hfz, hnd⟩ := hW
  have hA : DataW.TrodAll enc Tryd.prog W 0 (fun _ => true) true Tryd.f5.params.toList args.toList ds p := hA0
  have hV : DataW.TrodVars enc Tryd.prog W (fun _ => true) ["loop.example/s02095/impl.roundWords"] gs q := hV0
  rw [Tryd.params5] at hA hval hsz
  obtain ⟨v0, vs0, d0, ds0, p0, q0, hargs, rfl, rfl, h0, r0⟩ := trodAll_cons hA
  obtain ⟨v1, vs1, d1, ds1, p1, q1, rfl, rfl, rfl, h1, r1⟩ := trodAll_cons r0
  obtain ⟨rfl, rfl, rfl⟩ := trodAll_nil r1
  obtain rfl : args = #[v0, v1] := by cases args; simp_all
  obtain ⟨a0, len0, cap0, rfl⟩ := okWide_slice Tryd.underlying40 (hval 0 40 v0 rfl rfl)
  have k0 := h0
  have lt0 : ∀ x ∈ p0, x.block < W.heap.size := by obtain ⟨m, hm⟩ := k0; exact DataW.trod_lt m _ _ _ hm
  obtain ⟨z0, w0⟩ : ∃ zs, IsRow .u8 W a0 len0 cap0 zs := by
    obtain ⟨fuel, hf⟩ := h0
    rcases open_ints Tryd.underlying40 Tryd.underlying5 (by kernel_rfl) hf with ⟨hcs, _⟩ | ⟨x, l, c, zs, hcs, _, hl, hm, hz, _, hcell, hwz⟩
    · simp [Value.cells] at hcs
      obtain ⟨rfl, rfl, rfl⟩ := hcs
      exact ⟨[], .inl ⟨rfl, rfl, rfl, rfl⟩⟩
    · simp [Value.cells] at hcs
      obtain ⟨rfl, rfl, rfl⟩ := hcs
      exact ⟨zs, .inr ⟨_, rfl, hl, hm, by simpa using hz, hcell, hwz⟩⟩
  have y0 : len0 * 1 ≤ 140737488351232 := Go.Proofs.YtfonhiakelmhhaaDoorW.PrintWords.sized_ints hsz (j := 0) (t := 40) rfl rfl Tryd.underlying40 Tryd.underlying5 (by kernel_rfl) (by kernel_rfl) h0
  obtain ⟨a1, len1, cap1, rfl⟩ := okWide_slice Tryd.underlying40 (hval 1 40 v1 rfl rfl)
  have k1 := h1
  have lt1 : ∀ x ∈ p1, x.block < W.heap.size := by obtain ⟨m, hm⟩ := k1; exact DataW.trod_lt m _ _ _ hm
  obtain ⟨z1, w1⟩ : ∃ zs, IsRow .u8 W a1 len1 cap1 zs := by
    obtain ⟨fuel, hf⟩ := h1
    rcases open_ints Tryd.underlying40 Tryd.underlying5 (by kernel_rfl) hf with ⟨hcs, _⟩ | ⟨x, l, c, zs, hcs, _, hl, hm, hz, _, hcell, hwz⟩
    · simp [Value.cells] at hcs
      obtain ⟨rfl, rfl, rfl⟩ := hcs
      exact ⟨[], .inl ⟨rfl, rfl, rfl, rfl⟩⟩
    · simp [Value.cells] at hcs
      obtain ⟨rfl, rfl, rfl⟩ := hcs
      exact ⟨zs, .inr ⟨_, rfl, hl, hm, by simpa using hz, hcell, hwz⟩⟩
  have y1 : len1 * 1 ≤ 140737488351232 := Go.Proofs.YtfonhiakelmhhaaDoorW.PrintWords.sized_ints hsz (j := 1) (t := 40) rfl rfl Tryd.underlying40 Tryd.underlying5 (by kernel_rfl) (by kernel_rfl) h1
  obtain ⟨g, t, cs, fuel, d, p', rfl, hg, ht, hvar, hd, rfl⟩ := trodVars_one hV
  obtain rfl := Option.some.inj (g_roundWords.symm.trans hg)
  obtain rfl := Option.some.inj (ty_roundWords.symm.trans ht)
  obtain rfl : cs = c_roundWords := Option.some.inj (hvar.symm.trans (var_roundWords hL))
  obtain ⟨rfl, rfl⟩ := DataW.Trod.unique (v := .agg c_roundWords) ⟨fuel, hd⟩ ⟨3, reads_roundWords enc W _⟩
  clear hA0 hval0 hsz0 hsz
  refine (P.FnHash_walk a0 len0 cap0 z0 a1 len1 cap1 z1 W w0 y0 w1 y1 (glob_roundWords hL)).mono fun e W' ⟨he, bel⟩ => ?_
  subst he
  exact ⟨_, rfl, _, _, _, [], _, _, hW', trodAll_mk1 (shut_bool Tryd.underlying4 _), (trodAll_cons_mk (Below.trod laidOut (by kernel_rfl) (of_decide_eq_true (by kernel_rfl)) k0 bel lt0) (trodAll_cons_mk (Below.trod laidOut (by kernel_rfl) (of_decide_eq_true (by kernel_rfl)) k1 bel lt1) trodAll_mk0)), ⟨3, 206, c_roundWords, 3, [], [], hg, ht, var?_below bel hg (glob_roundWords hL).1 hvar, reads_roundWords enc _ _, rfl, rfl⟩, bel.frame _, fun h => by cases h⟩
noncomputable def laidWorld (os : Os) : World := { World.holding Tryd.prog os ⟨#[], #[], []⟩ with heap := ((World.holding Tryd.prog os ⟨#[], #[], []⟩).heap.modify 3 fun
      | .cells _ t frozen => .cells c_roundWords t frozen
      | o => o) }
theorem of_map {α β γ : Type} {x : Option (α × β × γ)} {a : α} {b : β} (h : x.map (fun x => (x.1, x.2.1)) = some (a, b)) : ∃ c, x = some (a, b, c) := by
  obtain ⟨⟨a1, b1, c1⟩, rfl, e⟩ := Option.map_eq_some_iff.1 h
  cases e
  exact ⟨c1, rfl⟩
theorem laid_met (os : Os) : laidMet Tryd.prog Rows.fnHashRow.laid ((laidWorld os).forCall (fun _ _ => 0) ⟨#[], #[.slice none 0 0, .slice none 0 0], []⟩).memory :=
  laidMet_of_run' 8 (by kernel_rfl) (by kernel_rfl)
theorem reads (os : Os) {H : Type} (enc : TypeId × Value → H) : ∃ places, DataW.whole enc Tryd.prog ((laidWorld os).forCall (fun _ _ => 0) ⟨#[], #[.slice none 0 0, .slice none 0 0], []⟩).memory Tryd.f5.params.toList Rows.fnHashSpec.vars false (#[.slice none 0 0, .slice none 0 0] : Array Value).toList 8 = some ([.nil, .nil], [d_roundWords], places) :=
  of_map (by kernel_rfl)
set_option maxRecDepth 100000 in
theorem lifted (os : Os) (started : os.Started) (H : Type) (enc : TypeId × Value → H) (F : Stop.Interp) :
    ReturnsInHanded {} Tryd.checked os 5 .any ((OpenSpec.ofChange Rows.fnHashSpec).preRow enc Tryd.prog Tryd.f5 Rows.fnHashRow.domain false Rows.fnHashRow.laid) (((OpenSpec.ofChange Rows.fnHashSpec).at F).post enc Tryd.prog Tryd.f5 false true false false) := by
  obtain ⟨places, hx⟩ := reads os enc
  refine returnsInHanded_of_row (C := Tryd.checked) (s := OpenSpec.ofChange Rows.fnHashSpec) own started (by kernel_rfl) Tryd.func5
    (witness_row_at (enc := enc) (C := Tryd.checked) false (laidWorld os) #[.slice none 0 0, .slice none 0 0] rfl (by kernel_rfl) (by kernel_rfl) (by kernel_rfl)
      (OpenSpec.preRow_of_cond 8 hx (by kernel_rfl) (fun k hk => by cases hk) (by kernel_rfl) (laid_met os))) ?_
  intro W base args ds gs before hval hW _ _ hsz hL _ _
  exact contract H enc W base args ds gs before hval hW hsz hL
theorem said : Rows.FnHashSaid :=
  OpenClaim.holds_of_cond 5 Tryd.f5 rfl rfl rfl rfl rfl rfl rfl ⟨rfl, rfl, rfl, rfl, rfl⟩ rfl rfl rfl rfl rfl (by kernel_rfl) Tryd.func5 (by kernel_rfl)
    (of_decide_eq_true (by kernel_rfl)) (by unfold Func.isWrapper; first | (rw [if_pos (by decide +kernel)]; kernel_rfl) | (rw [if_neg (by decide +kernel)]; exact ⟨rfl, rfl⟩))
    (fun os started H enc _ F => by rw [OpenClaim.pre_eq_preRow]; exact lifted os started H enc F)
theorem plain (f : FuncId) (fn : Func) (hf : Tryd.pinned.checked.prog.funcNamed "loop.example/s02095/laws.FnHash" = some f) (hfn : Tryd.pinned.checked.prog.funcs[f]? = some fn) :
    false = Tryd.pinned.checked.prog.looks [] ∧ ∀ (j : Nat) t, fn.params[j]? = some t → Tryd.pinned.checked.prog.wantsStandIn t = false := by
  obtain rfl : f = 5 := Option.some.inj ((show Tryd.prog.funcNamed "loop.example/s02095/laws.FnHash" = some 5 by kernel_rfl).symm.trans hf) |>.symm
  obtain rfl : fn = Tryd.f5 := (Option.some.inj (Tryd.func5.symm.trans hfn)).symm
  refine ⟨by kernel_rfl, fun j t ht => ?_⟩
  rw [Tryd.params5] at ht
  have hm : ∀ t ∈ [40], Tryd.prog.wantsStandIn t = false := by
    intro t ht
    simp only [List.mem_cons, List.not_mem_nil, or_false] at ht
    rcases ht with rfl <;> kernel_rfl
  exact hm t (by simpa using Array.mem_of_getElem? ht)
theorem card : Rows.FnHashCardSaid :=
  Claim7.holds_tied_plain_at .later [] _ _ _ _ said (fun _ h => by cases h) (by kernel_rfl) (fun _ h => by cases h) fnHash_row_tie rfl ⟨rfl, rfl⟩ (by kernel_rfl) rfl plain (by kernel_rfl)
#print axioms card
end Go.Proofs.YtfonhiakelmhhaaDoor.fnHash
namespace Go.Proofs.YtfonhiakelmhhaaDoor
theorem fnHash_holds : Rows.FnHashCardSaid := fnHash.card
end Go.Proofs.YtfonhiakelmhhaaDoor
end
