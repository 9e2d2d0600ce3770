/- Agree of the program returns what the reference's returns, at every argument. Conditions: those of each theorem. Part 7 of 7. -/
import Derived.Test.YtjbiklbhelknfaaDoorAgr6
import Derived.Test.YtjbiklbhelknfaaDoorAgr2
import Derived.Test.YtjbiklbhelknfaaDoorAgr5
import Derived.Test.YtjbiklbhelknfaaDoorAgr3
import Derived.Test.YtjbiklbhelknfaaDoorAgr4
import Derived.Deep.RegionHeld
import Derived.Deep.RegionHeld3
import Derived.Deep.Strs
import Derived.Lib.LaidTab
import Derived.KernelRfl
import Derived.ChangeArms
import Derived.Test.YtjbiklbhelknfaaDoorCards
import Derived.Test.YtjbiklbhelknfaaDoorTie
import Derived.WalkKit
import Derived.ProofKit
import Derived.OpenShut
import Derived.ShutString
import Derived.ChangeOld
import Derived.ChangeVars
import Derived.Below
import Derived.SizedLaws
import Derived.WalkSmall
import Derived.Deep.DeepHandedRow
import Derived.Stop.LaidErr
import Derived.Lib.SmallJoins
section
namespace Go.Proofs.YtjbiklbhelknfaaDoor.P
open Go.RowKit Go.Proofs.YtjbiklbhelknfaaDoorW.PrintWords Go.Proofs.YtjbiklbhelknfaaDoorW.PrintLast Go.Proofs.YtjbiklbhelknfaaDoorW.PrintMore Go.Proofs.YtjbiklbhelknfaaDoor.M
set_option linter.unusedVariables false
set_option linter.unusedSimpArgs false
theorem leO_up' {α : Type} {f : Nat → Option α} (h : ∀ k, LeO (f k) (f (k + 1))) {k m : Nat} (hk : k ≤ m) {r : α} (e : f k = some r) : f m = some r := by
  obtain ⟨d, rfl⟩ := Nat.exists_eq_add_of_le hk
  induction d with
  | zero => exact e
  | succ d ih => exact h _ _ (ih (by omega))
def wordS (w : Int) : ByteArray := strOfNums (be64 w)
theorem imWord (w : Int) (k : Nat) (hk : 10 ≤ k) : impl_PutWord.f k w = some (wordS w) := by
  unfold impl_PutWord.f
  rw [leO_up' (impl_bigEndian.mono w 8) hk (be_f8 w), Option.bind_some]
  rfl
theorem spw_step (k : Nat) (w : Int) (l : List Int) (i : Nat) (hi : i ≤ 7) (hl : l.length ≤ 100) :
    spec_PutWord.l0 (k + 1) w l (i : Int) = spec_PutWord.l0 k w (l ++ [w / 2 ^ (8 * i) % 256]) ((i : Int) - 1) := by
  have e1 : wrap64 (8 * (i : Int)) = 8 * (i : Int) := by unfold wrap64; omega
  have e2 : wrap64 ((i : Int) - 1) = (i : Int) - 1 := by unfold wrap64; omega
  have e3 : IntKind.u64.wrap (8 * (i : Int)) = 8 * (i : Int) := by rw [IntKind.wrap_u64]; omega
  have e4 : shr .u64 w (8 * (i : Int)) = w / 2 ^ (8 * i) := by
    unfold shr
    rw [show (8 * (i : Int)).toNat = 8 * i by omega, show min (8 * i) IntKind.u64.bits = 8 * i from Nat.min_eq_left (by show _ ≤ 64; omega)]
  rw [spec_PutWord.l0, if_pos (by omega), e1, e2, e3, if_pos (by omega), if_pos (by omega), e4]
theorem spWord (w : Int) (k : Nat) (hk : 10 ≤ k) : spec_PutWord.f k w = some (wordS w) := by
  have e : spec_PutWord.f 10 w = some (wordS w) := by
    unfold spec_PutWord.f
    rw [show spec_PutWord.l0 10 w [] 7 = spec_PutWord.l0 (9 + 1) w [] ((7 : Nat) : Int) from rfl, spw_step 9 w [] 7 (by decide) (by decide)]
    rw [show ((7 : Nat) : Int) - 1 = ((6 : Nat) : Int) from rfl, spw_step 8 w _ 6 (by decide) (by simp)]
    rw [show ((6 : Nat) : Int) - 1 = ((5 : Nat) : Int) from rfl, spw_step 7 w _ 5 (by decide) (by simp)]
    rw [show ((5 : Nat) : Int) - 1 = ((4 : Nat) : Int) from rfl, spw_step 6 w _ 4 (by decide) (by simp)]
    rw [show ((4 : Nat) : Int) - 1 = ((3 : Nat) : Int) from rfl, spw_step 5 w _ 3 (by decide) (by simp)]
    rw [show ((3 : Nat) : Int) - 1 = ((2 : Nat) : Int) from rfl, spw_step 4 w _ 2 (by decide) (by simp)]
    rw [show ((2 : Nat) : Int) - 1 = ((1 : Nat) : Int) from rfl, spw_step 3 w _ 1 (by decide) (by simp)]
    rw [show ((1 : Nat) : Int) - 1 = ((0 : Nat) : Int) from rfl, spw_step 2 w _ 0 (by decide) (by simp)]
    rw [spec_PutWord.l0, if_neg (by omega)]
    simp [wordS, be64]
  exact leO_up' (spec_PutWord.mono w) hk e
def onC (x y : Int) (inf : Bool) : Bool := if inf = true then x == 0 && y == 0 else decide (x < 2305843009213693951) && (decide (y < 2305843009213693951) && (y * y % 2305843009213693951 == rhs x))
theorem spOn (x y : Int) (inf : Bool) (hx : 0 ≤ x) (hy : 0 ≤ y) : spec_OnCurve.f x y inf = some (onC x y inf) := by
  unfold spec_OnCurve.f onC
  by_cases hi : inf = true
  · rw [if_pos hi, if_pos hi]
    by_cases h : x = 0
    · rw [if_pos h, beq_iff_eq.2 h, Bool.true_and]
    · rw [if_neg h, beq_eq_false_iff_ne.2 h, Bool.false_and]
  rw [if_neg hi, if_neg hi]
  by_cases h1 : x < 2305843009213693951
  · rw [if_pos h1, decide_eq_true h1, Bool.true_and]
    by_cases h2 : y < 2305843009213693951
    · rw [if_pos h2, decide_eq_true h2, Bool.true_and, spTimes y y hy h2 hy h2, Option.bind_some, spRight x hx h1, Option.bind_some]
    · rw [if_neg h2, decide_eq_false h2, Bool.false_and]
  · rw [if_neg h1, decide_eq_false h1, Bool.false_and]
theorem imAt (x y : Int) (inf : Bool) (k : Nat) (hx : 0 ≤ x) (hy : 0 ≤ y) (hk : 1 ≤ k) :
    impl_at.f k x y inf = some (if inf = true ∨ (x < 2305843009213693951 ∧ y < 2305843009213693951) then (x, y, inf, onC x y inf) else (0, 0, true, false)) := by
  obtain ⟨k, rfl⟩ : ∃ j, k = j + 1 := ⟨k - 1, by omega⟩
  unfold impl_at.f onC
  cases inf with
  | true => simp
  | false =>
    rw [if_neg (by decide)]
    by_cases h1 : x < 2305843009213693951
    · rw [if_neg (by omega)]
      by_cases h2 : y < 2305843009213693951
      · rw [decide_eq_false (by omega), impl_at.j0, if_neg (by decide), imTimes y y hy (by omega) hy (by omega), Option.bind_some, imCurveAt x hx h1, Option.bind_some, if_pos (.inr ⟨h1, h2⟩), if_neg (by decide), decide_eq_true h1, decide_eq_true h2, Bool.true_and, Bool.true_and]
      · rw [decide_eq_true (by omega), impl_at.j0, if_pos rfl, if_neg (by simp; omega)]
    · rw [if_pos (by omega), impl_at.j0, if_pos rfl, if_neg (by simp; omega)]
theorem onC_out {x y : Int} {inf : Bool} (h : ¬ (inf = true ∨ (x < 2305843009213693951 ∧ y < 2305843009213693951))) : onC x y inf = false := by
  unfold onC
  rw [not_or] at h
  obtain ⟨h1, h2⟩ := h
  rw [if_neg h1]
  by_cases a : x < 2305843009213693951
  · rw [decide_eq_true a, decide_eq_false (show ¬ y < 2305843009213693951 from fun b => h2 ⟨a, b⟩)]; rfl
  · rw [decide_eq_false a]; rfl
theorem imOn (x y : Int) (inf : Bool) (k : Nat) (hx : 0 ≤ x) (hy : 0 ≤ y) (hk : 1 ≤ k) : impl_OnCurve.f k x y inf = some (onC x y inf) := by
  unfold impl_OnCurve.f
  rw [imAt x y inf k hx hy hk, Option.bind_some]
  by_cases h : inf = true ∨ (x < 2305843009213693951 ∧ y < 2305843009213693951)
  · rw [if_pos h]
  · rw [if_neg h, onC_out h]
def propC (x y : Int) (inf : Bool) : Bool := !inf && onC x y inf
theorem imProper (x y : Int) (inf : Bool) (k : Nat) (hx : 0 ≤ x) (hy : 0 ≤ y) (hk : 1 ≤ k) : impl_proper.f k x y inf = some (propC x y inf) := by
  unfold impl_proper.f propC
  rw [imOn x y inf k hx hy hk, Option.bind_some]
  by_cases h : onC x y inf = true
  · rw [if_pos h, h]
    cases inf with
    | false => simp
    | true =>
      unfold onC at h
      rw [if_pos rfl] at h
      simp only [Bool.and_eq_true, beq_iff_eq] at h
      rw [h.1, h.2]
      rfl
  · rw [if_neg h, Bool.eq_false_iff.2 h, Bool.and_false]
def pointW (x y : Int) : Int := x + 4611686018427387904 + y % 2 * 2305843009213693952
def putS (x y : Int) (inf : Bool) : ByteArray := wordS (if propC x y inf = true then pointW x y else 0)
theorem propC_lt {x y : Int} {inf : Bool} (h : propC x y inf = true) : inf = false ∧ x < 2305843009213693951 ∧ y < 2305843009213693951 ∧ y * y % 2305843009213693951 = rhs x := by
  unfold propC at h
  cases inf with
  | true => cases h
  | false =>
    unfold onC at h
    simp only [Bool.not_false, Bool.true_and, Bool.false_eq_true, if_false, Bool.and_eq_true, decide_eq_true_eq, beq_iff_eq] at h
    exact ⟨rfl, h⟩
theorem imPut (x y : Int) (inf : Bool) (k : Nat) (hx : 0 ≤ x) (hy : 0 ≤ y) (hk : 10 ≤ k) : impl_PutPoint.f k x y inf = some (putS x y inf) := by
  unfold impl_PutPoint.f putS
  rw [imProper x y inf k hx hy (by omega), Option.bind_some]
  by_cases h : propC x y inf = true
  · obtain ⟨_, h1, h2, _⟩ := propC_lt h
    rw [if_pos h, if_pos h, imWord _ k hk, Option.bind_some, Int.tmod_eq_emod_of_nonneg hy, wrapU (x + 4611686018427387904) (by omega) (by omega), wrapU (y % 2 * 2305843009213693952) (by omega) (by omega), wrapU _ (by omega) (by omega)]
    rfl
  · rw [if_neg h, if_neg h, imWord _ k hk, Option.bind_some]
theorem spPut (x y : Int) (inf : Bool) (k : Nat) (hx : 0 ≤ x) (hy : 0 ≤ y) (hk : 11 ≤ k) : spec_PutPoint.f k x y inf = some (putS x y inf) := by
  obtain ⟨k, rfl⟩ : ∃ j, k = j + 1 := ⟨k - 1, by omega⟩
  unfold spec_PutPoint.f putS
  cases inf with
  | true => rw [if_pos rfl, spec_PutPoint.j0, if_pos rfl, spWord _ k (by omega), Option.bind_some]; rfl
  | false =>
    rw [if_neg (by decide), spOn x y false hx hy, Option.bind_some, spec_PutPoint.j0]
    by_cases h : propC x y false = true
    · obtain ⟨_, h1, h2, _⟩ := propC_lt h
      have ho : onC x y false = true := by unfold propC at h; simpa using h
      rw [ho, if_neg (by decide), if_pos h, spWord _ k (by omega), Option.bind_some, Int.tmod_eq_emod_of_nonneg hy, wrapU (x + 4611686018427387904) (by omega) (by omega), wrapU (2305843009213693952 * (y % 2)) (by omega) (by omega), wrapU _ (by omega) (by omega), Int.mul_comm]
      rfl
    · have ho : onC x y false = false := by unfold propC at h; simpa using h
      rw [ho, if_pos (by decide), if_neg h, spWord _ k (by omega), Option.bind_some]
theorem putS_size (x y : Int) (inf : Bool) : (putS x y inf).size = 8 := by unfold putS wordS; rw [strOfNums_size]; rfl
end Go.Proofs.YtjbiklbhelknfaaDoor.P
end
section
namespace Go.Proofs.YtjbiklbhelknfaaDoor.P
open Go.RowKit Go.Proofs.YtjbiklbhelknfaaDoorW.PrintWords Go.Proofs.YtjbiklbhelknfaaDoorW.PrintLast Go.Proofs.YtjbiklbhelknfaaDoorW.PrintMore
set_option linter.unusedVariables false
set_option linter.unusedSimpArgs false

theorem spTurn (x : Int) (n : Nat) (h1 : 1 ≤ n) (h2 : n ≤ 31) : spec_l1Turn.f x (n : Int) = some (rotr n x) := by
  have e1 : IntKind.u64.wrap (n : Int) = (n : Int) := by rw [IntKind.wrap_u64]; omega
  have e2 : IntKind.u64.wrap (wrap64 (32 - (n : Int))) = ((32 - n : Nat) : Int) := by unfold wrap64; rw [IntKind.wrap_u64]; omega
  unfold spec_l1Turn.f
  rw [e1, e2, if_pos (by omega), if_pos (by omega)]
  unfold shr shl rotr
  simp only [Int.toNat_natCast]
  rw [show min n IntKind.u32.bits = n from Nat.min_eq_left (by show n ≤ 32; omega), show min (32 - n) IntKind.u32.bits = 32 - n from Nat.min_eq_left (by show 32 - n ≤ 32; omega), IntKind.wrap_u32]
theorem rd_nat (l : List Int) (i : Int) (n : Nat) (h : i = (n : Int)) : rd l i = l.getD n 0 := by rw [h, rd, Int.toNat_natCast]
theorem blk_getD (x : List Int) (p i : Nat) (hi : i < 64) : ((x.drop p).take 64).getD i 0 = x.getD (p + i) 0 := by
  simp only [List.getD_eq_getElem?_getD, List.getElem?_take, List.getElem?_drop, if_pos hi]

theorem spSched0 (x : List Int) (p : Nat) (hx : Bytes x) (hp : p + 64 ≤ x.length) (hl : x.length ≤ 140737488355328) (k n : Nat) (hn : n < 16) :
    spec_l1Schedule.l0 (k + 1) x (p : Int) (wList ((x.drop p).take 64) n) (n : Int) = spec_l1Schedule.l0 k x (p : Int) (wList ((x.drop p).take 64) (n + 1)) ((n + 1 : Nat) : Int) := by
  have b0 := hx.getD (p + 4 * n)
  have b1 := hx.getD (p + 4 * n + 1)
  have b2 := hx.getD (p + 4 * n + 2)
  have b3 := hx.getD (p + 4 * n + 3)
  have i0 : wrap64 ((p : Int) + wrap64 (4 * (n : Int))) = ((p + 4 * n : Nat) : Int) := by unfold wrap64; omega
  have i1 : wrap64 (((p + 4 * n : Nat) : Int) + 1) = ((p + 4 * n + 1 : Nat) : Int) := by unfold wrap64; omega
  have i2 : wrap64 (((p + 4 * n : Nat) : Int) + 2) = ((p + 4 * n + 2 : Nat) : Int) := by unfold wrap64; omega
  have i3 : wrap64 (((p + 4 * n : Nat) : Int) + 3) = ((p + 4 * n + 3 : Nat) : Int) := by unfold wrap64; omega
  have i4 : wrap64 ((n : Int) + 1) = ((n + 1 : Nat) : Int) := by unfold wrap64; omega
  have c0 : (n : Int) < 16 := by clear b0 b1 b2 b3 i0 i1 i2 i3 i4; omega
  have c1 : ((p + 4 * n : Nat) : Int) < (x.length : Int) := by clear b0 b1 b2 b3 i0 i1 i2 i3 i4; omega
  have c2 : ((p + 4 * n + 1 : Nat) : Int) < (x.length : Int) := by clear b0 b1 b2 b3 i0 i1 i2 i3 i4; omega
  have c3 : ((p + 4 * n + 2 : Nat) : Int) < (x.length : Int) := by clear b0 b1 b2 b3 i0 i1 i2 i3 i4; omega
  have c4 : ((p + 4 * n + 3 : Nat) : Int) < (x.length : Int) := by clear b0 b1 b2 b3 i0 i1 i2 i3 i4; omega
  have c5 : (wList ((x.drop p).take 64) n).length < 35184372088832 := by rw [wList_length]; clear b0 b1 b2 b3 i0 i1 i2 i3 i4; omega
  rw [spec_l1Schedule.l0, if_pos c0, i0, i1, i2, i3, i4]
  rw [if_pos (Int.natCast_nonneg _), if_pos c1, if_pos (Int.natCast_nonneg _), if_pos c2, if_pos (Int.natCast_nonneg _), if_pos c3, if_pos (Int.natCast_nonneg _), if_pos c4, if_pos c5]
  clear c0 c1 c2 c3 c4 c5 i0 i1 i2 i3 i4
  rw [rd_nat x _ _ rfl, rd_nat x _ _ rfl, rd_nat x _ _ rfl, rd_nat x _ _ rfl]
  congr 1
  rw [wList, if_pos hn, be4, blk_getD _ _ _ (by omega), blk_getD _ _ _ (by omega), blk_getD _ _ _ (by omega), blk_getD _ _ _ (by omega)]
  simp only [← Nat.add_assoc]
  generalize x.getD (p + 4 * n) 0 = y0 at b0 ⊢
  generalize x.getD (p + 4 * n + 1) 0 = y1 at b1 ⊢
  generalize x.getD (p + 4 * n + 2) 0 = y2 at b2 ⊢
  generalize x.getD (p + 4 * n + 3) 0 = y3 at b3 ⊢
  rw [show y0 % 4294967296 * 16777216 % 4294967296 = y0 * 16777216 by omega, show y1 % 4294967296 * 65536 % 4294967296 = y1 * 65536 by omega, show y2 % 4294967296 * 256 % 4294967296 = y2 * 256 by omega, show y3 % 4294967296 = y3 by omega]
theorem spSched1 (blk : List Int) (k n : Nat) (h16 : 16 ≤ n) (hn : n < 64) :
    spec_l1Schedule.l1 (k + 1) (wList blk n) (n : Int) = spec_l1Schedule.l1 k (wList blk (n + 1)) ((n + 1 : Nat) : Int) := by
  have i0 : wrap64 ((n : Int) - 15) = ((n - 15 : Nat) : Int) := by unfold wrap64; omega
  have i1 : wrap64 ((n : Int) - 2) = ((n - 2 : Nat) : Int) := by unfold wrap64; omega
  have i2 : wrap64 ((n : Int) - 16) = ((n - 16 : Nat) : Int) := by unfold wrap64; omega
  have i3 : wrap64 ((n : Int) - 7) = ((n - 7 : Nat) : Int) := by unfold wrap64; omega
  have i4 : wrap64 ((n : Int) + 1) = ((n + 1 : Nat) : Int) := by unfold wrap64; omega
  have hl := wList_length blk n
  rw [spec_l1Schedule.l1, if_pos (by omega), i0, i1, i2, i3, i4]
  rw [if_pos (by omega), if_pos (by omega), if_pos (by omega), if_pos (by omega)]
  rw [rd_nat _ _ _ rfl, rd_nat _ _ _ rfl, rd_nat _ _ _ rfl, rd_nat _ _ _ rfl]
  rw [show (7 : Int) = ((7 : Nat) : Int) from rfl, spTurn _ 7 (by omega) (by omega), show (18 : Int) = ((18 : Nat) : Int) from rfl, spTurn _ 18 (by omega) (by omega), show (17 : Int) = ((17 : Nat) : Int) from rfl, spTurn _ 17 (by omega) (by omega), show (19 : Int) = ((19 : Nat) : Int) from rfl, spTurn _ 19 (by omega) (by omega)]
  simp only [Option.bind_some]
  rw [if_pos (by omega), if_pos (by omega), if_pos (by omega), if_pos (by omega), if_pos (by omega)]
  congr 1
  rw [wList, if_neg (by omega), nextW, sg0, sg1]
  congr 2
  generalize Go.bits .xor .u32 (Go.bits .xor .u32 (rotr 7 ((wList blk n).getD (n - 15) 0)) (rotr 18 ((wList blk n).getD (n - 15) 0))) ((wList blk n).getD (n - 15) 0 / 8) = s0
  generalize Go.bits .xor .u32 (Go.bits .xor .u32 (rotr 17 ((wList blk n).getD (n - 2) 0)) (rotr 19 ((wList blk n).getD (n - 2) 0))) ((wList blk n).getD (n - 2) 0 / 1024) = s1
  generalize (wList blk n).getD (n - 16) 0 = a
  generalize (wList blk n).getD (n - 7) 0 = b
  omega
theorem spSched (x : List Int) (p : Nat) (hx : Bytes x) (hp : p + 64 ≤ x.length) (hl : x.length ≤ 140737488355328) (k : Nat) (hk : 66 ≤ k) :
    spec_l1Schedule.f k x (p : Int) = some (wList ((x.drop p).take 64) 64) := by
  have a0 : ∀ d n k, n + d = 16 → d + 50 ≤ k → spec_l1Schedule.l0 k x (p : Int) (wList ((x.drop p).take 64) n) (n : Int) = spec_l1Schedule.l1 (k - d - 1) (wList ((x.drop p).take 64) 16) 16 := by
    intro d
    induction d with
    | zero =>
      intro n k hn hk
      obtain rfl : n = 16 := by omega
      obtain ⟨k, rfl⟩ : ∃ j, k = j + 1 := ⟨k - 1, by omega⟩
      rw [spec_l1Schedule.l0, if_neg (by omega)]
      rfl
    | succ d ih =>
      intro n k hn hk
      obtain ⟨k, rfl⟩ : ∃ j, k = j + 1 := ⟨k - 1, by omega⟩
      rw [spSched0 x p hx hp hl k n (by omega), ih (n + 1) k (by omega) (by omega)]
      congr 1
      omega
  have a1 : ∀ d n k, n + d = 64 → 16 ≤ n → d + 1 ≤ k → spec_l1Schedule.l1 k (wList ((x.drop p).take 64) n) (n : Int) = some (wList ((x.drop p).take 64) 64) := by
    intro d
    induction d with
    | zero =>
      intro n k hn _ hk
      obtain rfl : n = 64 := by omega
      obtain ⟨k, rfl⟩ : ∃ j, k = j + 1 := ⟨k - 1, by omega⟩
      rw [spec_l1Schedule.l1, if_neg (by omega)]
    | succ d ih =>
      intro n k hn h16 hk
      obtain ⟨k, rfl⟩ : ∃ j, k = j + 1 := ⟨k - 1, by omega⟩
      rw [spSched1 _ k n h16 (by omega), ih (n + 1) k (by omega) (by omega) (by omega)]
  unfold spec_l1Schedule.f
  have e0 := a0 16 0 k (by omega) (by omega)
  have e1 := a1 48 16 (k - 16 - 1) (by omega) (by omega) (by omega)
  exact e0.trans e1
theorem spStep (x0 ks ws : List Int) (s : S8) (k n : Nat) (hn : n < 64) (h1 : ks.length = 64) (h2 : ws.length = 64) :
    spec_l1Block.l0 (k + 1) x0 ks ws s.a s.b s.c s.d s.e s.f s.g s.h (n : Int) =
      spec_l1Block.l0 k x0 ks ws (step8 s (ks.getD n 0) (ws.getD n 0)).a (step8 s (ks.getD n 0) (ws.getD n 0)).b (step8 s (ks.getD n 0) (ws.getD n 0)).c (step8 s (ks.getD n 0) (ws.getD n 0)).d (step8 s (ks.getD n 0) (ws.getD n 0)).e (step8 s (ks.getD n 0) (ws.getD n 0)).f (step8 s (ks.getD n 0) (ws.getD n 0)).g (step8 s (ks.getD n 0) (ws.getD n 0)).h ((n + 1 : Nat) : Int) := by
  have i4 : wrap64 ((n : Int) + 1) = ((n + 1 : Nat) : Int) := by unfold wrap64; omega
  have c0 : (n : Int) < 64 := by omega
  have c1 : (n : Int) < (ks.length : Int) := by omega
  have c2 : (n : Int) < (ws.length : Int) := by omega
  rw [spec_l1Block.l0, if_pos c0, i4]
  rw [show (6 : Int) = ((6 : Nat) : Int) from rfl, spTurn _ 6 (by omega) (by omega), show (11 : Int) = ((11 : Nat) : Int) from rfl, spTurn _ 11 (by omega) (by omega), show (25 : Int) = ((25 : Nat) : Int) from rfl, spTurn _ 25 (by omega) (by omega),
    show (2 : Int) = ((2 : Nat) : Int) from rfl, spTurn _ 2 (by omega) (by omega), show (13 : Int) = ((13 : Nat) : Int) from rfl, spTurn _ 13 (by omega) (by omega), show (22 : Int) = ((22 : Nat) : Int) from rfl, spTurn _ 22 (by omega) (by omega)]
  simp only [Option.bind_some]
  rw [if_pos (Int.natCast_nonneg _), if_pos c1, if_pos c2, rd_nat _ _ _ rfl, rd_nat _ _ _ rfl]
  clear c0 c1 c2 i4
  show spec_l1Block.l0 k x0 ks ws _ s.a s.b s.c _ s.e s.f s.g _ = spec_l1Block.l0 k x0 ks ws _ s.a s.b s.c _ s.e s.f s.g _
  have e1 : ∀ h b c k w u : Int, (((((h + b) % 4294967296 + c) % 4294967296 + k) % 4294967296 + w) % 4294967296 + u % 4294967296) % 4294967296 = (h + b + c + k + w + u) % 4294967296 := by intros; omega
  have e2 : ∀ d h b c k w : Int, (d + ((((h + b) % 4294967296 + c) % 4294967296 + k) % 4294967296 + w) % 4294967296) % 4294967296 = (d + (h + b + c + k + w)) % 4294967296 := by intros; omega
  rw [e1, e2]
  rfl
theorem spRounds (x0 ks ws : List Int) (s0 : S8) (h1 : ks.length = 64) (h2 : ws.length = 64) : ∀ d n k, n + d = 64 → d + 1 ≤ k →
    spec_l1Block.l0 k x0 ks ws (rounds8 ks ws n s0).a (rounds8 ks ws n s0).b (rounds8 ks ws n s0).c (rounds8 ks ws n s0).d (rounds8 ks ws n s0).e (rounds8 ks ws n s0).f (rounds8 ks ws n s0).g (rounds8 ks ws n s0).h (n : Int) =
    spec_l1Block.l0 (k - d) x0 ks ws (rounds8 ks ws 64 s0).a (rounds8 ks ws 64 s0).b (rounds8 ks ws 64 s0).c (rounds8 ks ws 64 s0).d (rounds8 ks ws 64 s0).e (rounds8 ks ws 64 s0).f (rounds8 ks ws 64 s0).g (rounds8 ks ws 64 s0).h 64 := by
  intro d
  induction d with
  | zero =>
    intro n k hn hk
    obtain rfl : n = 64 := by omega
    rfl
  | succ d ih =>
    intro n k hn hk
    obtain ⟨k, rfl⟩ : ∃ j, k = j + 1 := ⟨k - 1, by omega⟩
    rw [spStep x0 ks ws (rounds8 ks ws n s0) k n (by omega) h1 h2]
    have e := ih (n + 1) k (by omega) (by omega)
    rw [show k + 1 - (d + 1) = k - d by omega]
    exact e
theorem spBlock (s0 : S8) (x ks : List Int) (p : Nat) (hk : ks.length = 64) (hx : Bytes x) (hp : p + 64 ≤ x.length) (hl : x.length ≤ 140737488355328) (k : Nat) (hk2 : 66 ≤ k) :
    spec_l1Block.f k s0.list ks x (p : Int) = some (compress8 ks s0 ((x.drop p).take 64)).list := by
  unfold spec_l1Block.f
  rw [spSched x p hx hp hl k hk2]
  have e := spRounds s0.list ks (wList ((x.drop p).take 64) 64) s0 hk (wList_length _ _) 64 0 k (by omega) (by omega)
  obtain ⟨j, hj⟩ : ∃ j, k - 64 = j + 1 := ⟨k - 64 - 1, by omega⟩
  rw [hj] at e
  exact e.trans rfl
theorem spOut (s : S8) (k : Nat) (hk : 10 ≤ k) : spec_Sha256.l1 k s.list [] 0 = some (strOfNums (s.list.flatMap be32)) := by
  have st : ∀ (n : Nat) (out : List Int) (k : Nat), n < 8 → out.length ≤ 100 → spec_Sha256.l1 (k + 1) s.list out (n : Int) = spec_Sha256.l1 k s.list (out ++ be32 (s.list.getD n 0)) ((n + 1 : Nat) : Int) := by
    intro n out k hn ho
    have i4 : wrap64 ((n : Int) + 1) = ((n + 1 : Nat) : Int) := by unfold wrap64; omega
    rw [spec_Sha256.l1, if_pos (by omega), i4, if_pos (Int.natCast_nonneg _), if_pos (by show (n : Int) < 8; omega), rd_nat _ _ _ rfl, Option.bind_some, if_pos (by show out.length + 4 < _; omega)]
    rfl
  obtain ⟨k, rfl⟩ : ∃ j, k = j + 9 := ⟨k - 9, by omega⟩
  have e := st 0 [] (k + 8) (by omega) (by simp)
  refine e.trans ?_
  rw [st 1 _ (k + 7) (by omega) (by simp [be32]), st 2 _ (k + 6) (by omega) (by simp [be32]), st 3 _ (k + 5) (by omega) (by simp [be32]), st 4 _ (k + 4) (by omega) (by simp [be32]), st 5 _ (k + 3) (by omega) (by simp [be32]), st 6 _ (k + 2) (by omega) (by simp [be32]), st 7 _ (k + 1) (by omega) (by simp [be32])]
  rw [spec_Sha256.l1, if_neg (by omega)]
  rfl
theorem bytes_padList (s : ByteArray) : Bytes (padList s) := by
  unfold padList
  refine Bytes.append (Bytes.append (Bytes.append (bytes_bytesOf s) ?_) ?_) (bytes_be64 _)
  · intro x hx; obtain rfl := List.mem_singleton.1 hx; omega
  · intro x hx; obtain rfl := List.eq_of_mem_replicate hx; omega
theorem padList_eq (s : ByteArray) : padList s = padM (bytesOf s) := by unfold padList padM; rw [bytesOf_length]
theorem padM_length (m : List Int) : (padM m).length = 64 * ((m.length + 72) / 64) := by
  unfold padM padZeros
  simp only [List.length_append, List.length_cons, List.length_nil, List.length_replicate]
  show m.length + 1 + _ + 8 = _
  omega
theorem spBlocks (ks x : List Int) (hks : ks = roundK) (N : Nat) (hx : Bytes x) (hN : x.length = 64 * N) (hl : x.length ≤ 140737488355328) : ∀ d n k, n + d = N → d + 80 ≤ k →
    spec_Sha256.l0 k (stN x n).list ks x ((64 * n : Nat) : Int) = some (strOfNums ((stN x N).list.flatMap be32)) := by
  intro d
  induction d with
  | zero =>
    intro n k hn hk
    obtain rfl : n = N := by omega
    obtain ⟨k, rfl⟩ : ∃ j, k = j + 1 := ⟨k - 1, by omega⟩
    rw [spec_Sha256.l0, if_neg (by omega)]
    exact spOut _ _ (by omega)
  | succ d ih =>
    intro n k hn hk
    obtain ⟨k, rfl⟩ : ∃ j, k = j + 1 := ⟨k - 1, by omega⟩
    have i4 : wrap64 (((64 * n : Nat) : Int) + 64) = ((64 * (n + 1) : Nat) : Int) := by unfold wrap64; omega
    rw [spec_Sha256.l0, if_pos (by omega), i4, spBlock (stN x n) x ks (64 * n) (by rw [hks]; rfl) hx (by omega) hl k (by omega), Option.bind_some]
    have e := ih (n + 1) k (by omega) (by omega)
    rw [hks] at e ⊢
    exact e
theorem spSha (a0 : ByteArray) (k : Nat) (h : a0.size ≤ 70368744177664) (hk : (a0.size + 72) / 64 + 80 ≤ k) : spec_Sha256.f k a0 = some (shaS (bytesOf a0)) := by
  unfold spec_Sha256.f
  rw [show spec_l1K.f = some roundK from rfl, Option.bind_some, spec_l1Padded.f, if_pos h, Option.bind_some]
  have hl : (padList a0).length = 64 * ((a0.size + 72) / 64) := by rw [padList_eq, padM_length, bytesOf_length]
  have e := spBlocks roundK (padList a0) rfl ((a0.size + 72) / 64) (bytes_padList a0) hl (by rw [hl]; omega) ((a0.size + 72) / 64) 0 k (by omega) hk
  refine e.trans ?_
  unfold shaS shaNums stOf
  rw [← padList_eq, hl, Nat.mul_div_cancel_left _ (by omega)]
end Go.Proofs.YtjbiklbhelknfaaDoor.P
end
section
namespace Go.Proofs.YtjbiklbhelknfaaDoor.P
open Go.RowKit Go.Proofs.YtjbiklbhelknfaaDoorW.PrintWords Go.Proofs.YtjbiklbhelknfaaDoorW.PrintLast Go.Proofs.YtjbiklbhelknfaaDoorW.PrintMore
set_option linter.unusedVariables false
set_option linter.unusedSimpArgs false
theorem bt_nat (s : ByteArray) (n : Nat) : bt s (n : Int) = (bytesOf s).getD n 0 := by
  unfold bt bytesOf
  rw [List.getD_eq_getElem?_getD, List.getElem?_map, Array.getElem?_toList]
  by_cases h : n < s.size
  · rw [dif_pos (by rw [Int.toNat_natCast]; exact h), Array.getElem?_eq_getElem (show n < s.data.size from h)]
    simp only [Int.toNat_natCast]
    rfl
  · rw [dif_neg (by rw [Int.toNat_natCast]; exact h), Array.getElem?_eq_none (by show s.data.size ≤ n; have : s.size = s.data.size := rfl; omega)]
    rfl
theorem strOfNums_append (a b : List Int) : strOfNums a ++ strOfNums b = strOfNums (a ++ b) := by
  apply ByteArray.ext
  apply Array.toList_inj.1
  rw [ByteArray.data_append, Array.toList_append, strOfNums_data, strOfNums_data, strOfNums_data, List.map_append]
theorem leO_up {α : Type} {f : Nat → Option α} (h : ∀ k, LeO (f k) (f (k + 1))) {k m : Nat} (hk : k ≤ m) {r : α} (e : f k = some r) : f m = some r := by
  obtain ⟨d, rfl⟩ := Nat.exists_eq_add_of_le hk
  induction d with
  | zero => exact e
  | succ d ih => exact h _ _ (ih (by omega))
end Go.Proofs.YtjbiklbhelknfaaDoor.P
end
section
namespace Go.Proofs.YtjbiklbhelknfaaDoor.P
open Go.RowKit Go.Proofs.YtjbiklbhelknfaaDoorW.PrintWords Go.Proofs.YtjbiklbhelknfaaDoorW.PrintLast Go.Proofs.YtjbiklbhelknfaaDoorW.PrintMore
set_option linter.unusedVariables false
set_option linter.unusedSimpArgs false
theorem longAll : ∀ n : Nat, n < 65 → spec_l1Long.f 60 (n : Int) ⟨#[0]⟩ = some (strOfNums (List.replicate n 0)) := by decide +kernel
theorem longAt (n k : Nat) (hn : n ≤ 64) (hk : 60 ≤ k) : spec_l1Long.f k (n : Int) ⟨#[0]⟩ = some (strOfNums (List.replicate n 0)) :=
  leO_up (spec_l1Long.mono (n : Int) ⟨#[0]⟩) hk (longAll n (by omega))
theorem spXorAll (s : ByteArray) (c : Int) (hs : s.size ≤ 1000) : ∀ d n k, n + d = s.size → d + 1 ≤ k →
    spec_l1Xor.l0 k s c (((bytesOf s).take n).map fun x => Go.bits .xor .u8 x c) (n : Int) = some (strOfNums ((bytesOf s).map fun x => Go.bits .xor .u8 x c)) := by
  intro d
  induction d with
  | zero =>
    intro n k hn hk
    obtain ⟨k, rfl⟩ : ∃ j, k = j + 1 := ⟨k - 1, by omega⟩
    rw [spec_l1Xor.l0, if_neg (by omega), List.take_of_length_le (by rw [bytesOf_length]; omega)]
  | succ d ih =>
    intro n k hn hk
    obtain ⟨k, rfl⟩ : ∃ j, k = j + 1 := ⟨k - 1, by omega⟩
    have hl : n < (bytesOf s).length := by rw [bytesOf_length]; omega
    have e : (((bytesOf s).take n).map fun x => Go.bits .xor .u8 x c) ++ [Go.bits .xor .u8 (bt s (n : Int)) c] = ((bytesOf s).take (n + 1)).map fun x => Go.bits .xor .u8 x c := by
      rw [bt_nat, List.take_succ_eq_append_getElem hl, List.map_append, List.getD_eq_getElem?_getD, List.getElem?_eq_getElem hl]
      rfl
    rw [spec_l1Xor.l0, if_pos (by omega), if_pos (by omega), if_pos (by rw [List.length_map, List.length_take]; omega), e, show wrap64 ((n : Int) + 1) = ((n + 1 : Nat) : Int) from by unfold wrap64; omega]
    exact ih (n + 1) k (by omega) (by omega)
theorem spXor (s : ByteArray) (c : Int) (k : Nat) (hs : s.size ≤ 1000) (hk : 1001 ≤ k) : spec_l1Xor.f k s c = some (strOfNums ((bytesOf s).map fun x => Go.bits .xor .u8 x c)) := by
  unfold spec_l1Xor.f
  exact spXorAll s c hs s.size 0 k (by omega) (by omega)
def keyB (key : ByteArray) : ByteArray := if 64 < key.size then shaS (bytesOf key) else key
theorem keyB_bytes (key : ByteArray) : bytesOf (keyB key) = keyL key := by
  unfold keyB keyL
  split
  · exact bytesOf_shaS _
  · rfl
theorem keyB_size (key : ByteArray) : (keyB key).size ≤ 64 := by
  unfold keyB
  split
  · rw [shaS_size]; omega
  · omega
theorem spHmac0 (key s : ByteArray) (k : Nat) (hs : s.size ≤ 70368744177000) (hk : (s.size + 136) / 64 + 1100 ≤ k) : spec_Hmac.j0 (k + 1) (keyB key) s = some (hmacL key (bytesOf s)) := by
  have hb := keyB_size key
  have hl : (keyL key).length = (keyB key).size := by rw [← keyB_bytes, bytesOf_length]
  have el : wrap64 (64 - ((keyB key).size : Int)) = ((64 - (keyB key).size : Nat) : Int) := by unfold wrap64; omega
  have ep : ∀ c, (bytesOf (keyB key ++ strOfNums (List.replicate (64 - (keyB key).size) 0))).map (fun x => Go.bits .xor .u8 x c) = padX key c := by
    intro c
    rw [bytesOf_append, keyB_bytes, bytesOf_strOfNums _ (by intro x hx; obtain rfl := List.eq_of_mem_replicate hx; omega)]
    unfold padX keyPad
    rw [hl]
  have hz : (keyB key ++ strOfNums (List.replicate (64 - (keyB key).size) 0)).size = 64 := by rw [ByteArray.size_append, strOfNums_size, List.length_replicate]; omega
  have zp : ∀ c, (strOfNums (padX key c)).size = 64 := fun c => by rw [strOfNums_size, padX_length]
  rw [spec_Hmac.j0, el, longAt _ k (by omega) (by omega), Option.bind_some, if_pos (by rw [strOfNums_size, List.length_replicate]; omega),
    spXor _ 92 k (by omega) (by omega), Option.bind_some, spXor _ 54 k (by omega) (by omega), Option.bind_some, ep, ep, if_pos (by rw [zp]; omega)]
  rw [spSha _ k (by rw [ByteArray.size_append, zp]; omega) (by rw [ByteArray.size_append, zp]; omega), Option.bind_some, if_pos (by rw [zp, shaS_size]; omega),
    spSha _ k (by rw [ByteArray.size_append, zp, shaS_size]; omega) (by rw [ByteArray.size_append, zp, shaS_size]; omega), Option.bind_some]
  congr 1
  unfold hmacL
  rw [bytesOf_append, bytesOf_append, bytesOf_strOfNums _ (bytes_padX key 92 (by decide) (by decide)), bytesOf_strOfNums _ (bytes_padX key 54 (by decide) (by decide))]
theorem spHmac (key s : ByteArray) (k : Nat) (hz : key.size ≤ 70368744177000) (hs : s.size ≤ 70368744177000) (hk : (s.size + 136) / 64 + 1101 ≤ k) (hk2 : (key.size + 72) / 64 + 80 ≤ k) : spec_Hmac.f k key s = some (hmacL key (bytesOf s)) := by
  obtain ⟨k, rfl⟩ : ∃ j, k = j + 1 := ⟨k - 1, by omega⟩
  have e := spHmac0 key s k hs (by omega)
  unfold keyB at e
  unfold spec_Hmac.f
  by_cases c : 64 < key.size
  · rw [if_pos c] at e
    rw [if_pos (by omega), spSha key (k + 1) (by omega) (by omega), Option.bind_some, e]
  · rw [if_neg c] at e
    rw [if_neg (by omega), e]
theorem spExp (key info : ByteArray) (n : Int) (hz : key.size ≤ 70368744177000) (hi : info.size ≤ 70368744170000) (h0 : 0 ≤ n) (h1 : n ≤ 8160) (N : Nat) (hN : N = (n.toNat + 31) / 32) :
    ∀ d j k, j + d = N → (info.size + 400) / 64 + (key.size + 72) / 64 + d + 1200 ≤ k →
    spec_Expand.l0 k key info n (strOfNums (exAll key info j)) (strOfNums (exN key info j)) ((j : Int) + 1) = some (strOfNums ((exAll key info N).take n.toNat), true) := by
  intro d
  induction d with
  | zero =>
    intro j k hj hk
    obtain rfl : j = N := by omega
    obtain ⟨k, rfl⟩ : ∃ j, k = j + 1 := ⟨k - 1, by omega⟩
    rw [spec_Expand.l0, if_neg (by rw [strOfNums_size, exAll_length]; omega), if_pos h0, if_pos (by rw [strOfNums_size, exAll_length]; omega), strOfNums_extract]
  | succ d ih =>
    intro j k hj hk
    obtain ⟨k, rfl⟩ : ∃ j, k = j + 1 := ⟨k - 1, by omega⟩
    have hx := exN_le key info j
    have z1 : (strOfNums (exN key info j)).size ≤ 32 := by rw [strOfNums_size]; exact hx
    have z2 : (strOfNums [((j : Int) + 1) % 256]).size = 1 := by rw [strOfNums_size]; rfl
    have eb : bytesOf ((strOfNums (exN key info j) ++ info) ++ strOfNums [((j : Int) + 1) % 256]) = exN key info j ++ bytesOf info ++ [((j : Int) + 1) % 256] := by
      rw [bytesOf_append, bytesOf_append, bytesOf_strOfNums _ (bytes_exN key info j), bytesOf_strOfNums _ (by intro x hx; obtain rfl := List.mem_singleton.1 hx; omega)]
    have eh : spec_Hmac.f k key ((strOfNums (exN key info j) ++ info) ++ strOfNums [((j : Int) + 1) % 256]) = some (strOfNums (exN key info (j + 1))) := by
      rw [spHmac key _ k hz (by rw [ByteArray.size_append, ByteArray.size_append, z2]; omega) (by rw [ByteArray.size_append, ByteArray.size_append, z2]; omega) (by omega), eb, hmacL_eq]
      rfl
    have ea : strOfNums (exAll key info j) ++ strOfNums (exN key info (j + 1)) = strOfNums (exAll key info (j + 1)) := by rw [strOfNums_append]; rfl
    rw [spec_Expand.l0, if_pos (by rw [strOfNums_size, exAll_length]; omega), if_pos (by omega), Option.bind_some, if_pos (by rw [ByteArray.size_append, z2]; omega), eh, Option.bind_some,
      if_pos (by rw [strOfNums_size, strOfNums_size, exAll_length]; have : (exN key info (j + 1)).length = 32 := hmacN_length _ _; omega), ea, show wrap64 ((j : Int) + 1 + 1) = ((j + 1 : Nat) : Int) + 1 from by unfold wrap64; omega]
    exact ih (j + 1) k (by omega) (by omega)
theorem spExpand2 (key info : ByteArray) (n : Int) (k : Nat) (hz : key.size ≤ 70368744177000) (hi : info.size ≤ 70368744170000) (hk : (info.size + 400) / 64 + (key.size + 72) / 64 + 2000 ≤ k) : spec_Expand.f k key info n = impl_Expand.f key info n := by
  obtain ⟨k, rfl⟩ : ∃ j, k = j + 1 := ⟨k - 1, by omega⟩
  unfold spec_Expand.f impl_Expand.f
  rw [if_pos (show key.size ≤ 281474976710656 ∧ info.size ≤ 281474976710656 by omega)]
  by_cases c1 : n < 0
  · rw [if_pos c1, if_pos c1, spec_Expand.j0, if_pos rfl]
  rw [if_neg c1, if_neg c1]
  by_cases c2 : 8160 < n
  · rw [if_pos c2, decide_eq_true (by omega), spec_Expand.j0, if_pos rfl]
  rw [if_neg c2, decide_eq_false (by omega), spec_Expand.j0, if_neg (by decide)]
  exact spExp key info n hz hi (by omega) (by omega) ((n.toNat + 31) / 32) rfl ((n.toNat + 31) / 32) 0 k (by omega) (by omega)
end Go.Proofs.YtjbiklbhelknfaaDoor.P
end
section
namespace Go.Proofs.YtjbiklbhelknfaaDoor.P
open Go.RowKit Go.Proofs.YtjbiklbhelknfaaDoorW.PrintWords Go.Proofs.YtjbiklbhelknfaaDoorW.PrintLast Go.Proofs.YtjbiklbhelknfaaDoorW.PrintMore
set_option linter.unusedVariables false
set_option linter.unusedSimpArgs false
def partS (key word seen : ByteArray) : ByteArray := expandS key (word ++ shaS (bytesOf seen)) 32
def agreeS (x0 y0 : Int) (i0 : Bool) (x1 y1 : Int) (i1 : Bool) (x2 y2 : Int) (i2 : Bool) (seen : ByteArray) : ByteArray × ByteArray × ByteArray :=
  let key := hmacL ⟨#[]⟩ (bytesOf ((putS x0 y0 i0 ++ putS x1 y1 i1) ++ putS x2 y2 i2))
  (partS key ⟨#[83, 101, 115, 115, 105, 111, 110]⟩ seen, partS key ⟨#[83, 101, 114, 118, 101, 114]⟩ seen, partS key ⟨#[67, 108, 105, 101, 110, 116]⟩ seen)
theorem imExpand32 (key info : ByteArray) (h0 : key.size ≤ 1000000) (h1 : info.size ≤ 1000000) : impl_Expand.f key info 32 = some (expandS key info 32, true) := by
  unfold impl_Expand.f
  rw [if_pos (by omega), if_neg (by decide), if_neg (by decide)]
theorem spPart (key word seen : ByteArray) (k : Nat) (h0 : key.size ≤ 1000) (hw : word.size ≤ 1000) (hs : seen.size ≤ 1048576) (hk : 20000 ≤ k) : spec_l7Expanded.f k key word seen = some (partS key word seen) := by
  unfold spec_l7Expanded.f
  rw [spSha seen k (by omega) (by omega), Option.bind_some, if_pos (by rw [shaS_size]; omega), spExpand2 key _ 32 k (by omega) (by rw [ByteArray.size_append, shaS_size]; omega) (by rw [ByteArray.size_append, shaS_size]; omega),
    imExpand32 _ _ (by omega) (by rw [ByteArray.size_append, shaS_size]; omega), Option.bind_some]
  rfl
theorem spAgree (x0 y0 : Int) (i0 : Bool) (x1 y1 : Int) (i1 : Bool) (x2 y2 : Int) (i2 : Bool) (seen : ByteArray) (k : Nat) (hx0 : 0 ≤ x0) (hy0 : 0 ≤ y0) (hx1 : 0 ≤ x1) (hy1 : 0 ≤ y1) (hx2 : 0 ≤ x2) (hy2 : 0 ≤ y2) (hs : seen.size ≤ 1048576) (hk : 20000 ≤ k) :
    spec_Agree.f k x0 y0 i0 x1 y1 i1 x2 y2 i2 seen = some (agreeS x0 y0 i0 x1 y1 i1 x2 y2 i2 seen) := by
  have z0 := putS_size x0 y0 i0
  have z1 := putS_size x1 y1 i1
  have z2 := putS_size x2 y2 i2
  have zk : ∀ l, (hmacL ⟨#[]⟩ l).size = 32 := fun l => hmacL_size _ _
  unfold spec_Agree.f spec_Extract.f
  rw [spPut x0 y0 i0 k hx0 hy0 (by omega), Option.bind_some, spPut x1 y1 i1 k hx1 hy1 (by omega), Option.bind_some, if_pos (by omega), spPut x2 y2 i2 k hx2 hy2 (by omega), Option.bind_some, if_pos (by rw [ByteArray.size_append]; omega),
    spHmac ⟨#[]⟩ _ k (show (0 : Nat) ≤ _ by omega) (by rw [ByteArray.size_append, ByteArray.size_append]; omega) (by rw [ByteArray.size_append, ByteArray.size_append]; omega) (show (0 + 72) / 64 + 80 ≤ k by omega), Option.bind_some, Option.bind_some,
    spPart _ ⟨#[83, 101, 115, 115, 105, 111, 110]⟩ _ k (by rw [zk]; omega) (show 7 ≤ 1000 by omega) hs hk, Option.bind_some, spPart _ ⟨#[83, 101, 114, 118, 101, 114]⟩ _ k (by rw [zk]; omega) (show 6 ≤ 1000 by omega) hs hk, Option.bind_some, spPart _ ⟨#[67, 108, 105, 101, 110, 116]⟩ _ k (by rw [zk]; omega) (show 6 ≤ 1000 by omega) hs hk, Option.bind_some]
  rfl
theorem imAgree (x0 y0 : Int) (i0 : Bool) (x1 y1 : Int) (i1 : Bool) (x2 y2 : Int) (i2 : Bool) (seen : ByteArray) (k : Nat) (hx0 : 0 ≤ x0) (hy0 : 0 ≤ y0) (hx1 : 0 ≤ x1) (hy1 : 0 ≤ y1) (hx2 : 0 ≤ x2) (hy2 : 0 ≤ y2) (hs : seen.size ≤ 1048576) (hk : 20000 ≤ k) :
    impl_Agree.f k x0 y0 i0 x1 y1 i1 x2 y2 i2 seen = some (agreeS x0 y0 i0 x1 y1 i1 x2 y2 i2 seen) := by
  have z0 := putS_size x0 y0 i0
  have z1 := putS_size x1 y1 i1
  have z2 := putS_size x2 y2 i2
  have zk : ∀ l, (hmacL ⟨#[]⟩ l).size = 32 := fun l => hmacL_size _ _
  have zs := shaS_size (bytesOf seen)
  have es : impl_Sha256.f seen = some (shaS (bytesOf seen)) := by unfold impl_Sha256.f; rw [if_pos (by omega)]
  have ex : ∀ s : ByteArray, s.size ≤ 1000 → impl_Extract.f ⟨#[]⟩ s = some (hmacL ⟨#[]⟩ (bytesOf s)) := by
    intro s h
    unfold impl_Extract.f hmacF
    rw [if_pos ⟨show (0 : Nat) ≤ _ by omega, by omega⟩]
  unfold impl_Agree.f
  rw [imPut x0 y0 i0 k hx0 hy0 (by omega), Option.bind_some, imPut x1 y1 i1 k hx1 hy1 (by omega), Option.bind_some, if_pos (by omega), imPut x2 y2 i2 k hx2 hy2 (by omega), Option.bind_some, if_pos (by rw [ByteArray.size_append]; omega),
    ex _ (by rw [ByteArray.size_append, ByteArray.size_append]; omega), Option.bind_some, es, Option.bind_some, if_pos (by omega),
    imExpand32 _ _ (by rw [zk]; omega) (by rw [ByteArray.size_append, zs]; show 7 + 32 ≤ _; omega), Option.bind_some, Option.bind_some, if_pos (by omega),
    imExpand32 _ _ (by rw [zk]; omega) (by rw [ByteArray.size_append, zs]; show 6 + 32 ≤ _; omega), Option.bind_some, Option.bind_some, if_pos (by omega),
    imExpand32 _ _ (by rw [zk]; omega) (by rw [ByteArray.size_append, zs]; show 6 + 32 ≤ _; omega), Option.bind_some]
  rfl
theorem FnExactAgree_pure (x0 y0 : Int) (i0 : Bool) (x1 y1 : Int) (i1 : Bool) (x2 y2 : Int) (i2 : Bool) (seen : ByteArray) (hx0 : 0 ≤ x0) (hy0 : 0 ≤ y0) (hx1 : 0 ≤ x1) (hy1 : 0 ≤ y1) (hx2 : 0 ≤ x2) (hy2 : 0 ≤ y2) :
    laws_FnExactAgree.f 20000 x0 y0 i0 x1 y1 i1 x2 y2 i2 seen = some true := by
  unfold laws_FnExactAgree.f laws_toPoint.f
  by_cases h : (seen.size : Int) > 1048576
  · rw [if_pos h]
  rw [if_neg h]
  simp only [Option.bind_some]
  rw [spAgree x0 y0 i0 x1 y1 i1 x2 y2 i2 seen 20000 hx0 hy0 hx1 hy1 hx2 hy2 (by omega) (by omega), imAgree x0 y0 i0 x1 y1 i1 x2 y2 i2 seen 20000 hx0 hy0 hx1 hy1 hx2 hy2 (by omega) (by omega), Option.bind_some, Option.bind_some]
  unfold laws_eqKeys.f
  rw [if_pos rfl, if_pos rfl, if_pos rfl, Option.bind_some, if_pos rfl]
theorem nonneg_u64 {n : Int} (h : (Lit.int .u64 n).wf = true) : 0 ≤ n := by
  simp [Lit.wf, IntKind.min, IntKind.max, IntKind.signed, IntKind.bits] at h
  omega
theorem FnExactAgree_walk (x0 y0 : Int) (i0 : Bool) (x1 y1 : Int) (i1 : Bool) (x2 y2 : Int) (i2 : Bool) (seen : ByteArray) (w : World) (hx0 : (Lit.int .u64 x0).wf = true) (hy0 : (Lit.int .u64 y0).wf = true) (hx1 : (Lit.int .u64 x1).wf = true) (hy1 : (Lit.int .u64 y1).wf = true)
    (hx2 : (Lit.int .u64 x2).wf = true) (hy2 : (Lit.int .u64 y2).wf = true) (hs : seen.size ≤ 140737488351232) (hG : Glob w) (hZ : GlobZ w) :
    Calls Tryd.prog 5 #[.agg #[.int .u64 x0, .int .u64 y0, .bool i0], .agg #[.int .u64 x1, .int .u64 y1, .bool i1], .agg #[.int .u64 x2, .int .u64 y2, .bool i2], .string seen] w fun e w' => e = .returned (.bool true) ∧ Below w.heap.size w w' :=
  laws_FnExactAgree.calls 20000 x0 y0 i0 x1 y1 i1 x2 y2 i2 seen true w (FnExactAgree_pure x0 y0 i0 x1 y1 i1 x2 y2 i2 seen (nonneg_u64 hx0) (nonneg_u64 hy0) (nonneg_u64 hx1) (nonneg_u64 hy1) (nonneg_u64 hx2) (nonneg_u64 hy2)) hG hZ
end Go.Proofs.YtjbiklbhelknfaaDoor.P
end
section
namespace Go.Proofs.YtjbiklbhelknfaaDoor.P
set_option linter.unusedVariables false
theorem cells_point : Tryd.prog.cellsOf 29 = 3 := by kernel_rfl
theorem zero_cells {H : Type} {enc : TypeId × Value → H} {W : World} {base : Nat} {sp : Nat → Bool} {held : Bool} {fuel : Nat} {cs : Array Value} {p : List MemPlace}
    (hd : DataW.trod enc Tryd.prog W base sp held fuel 29 cs.toList = some (.agg [.lit (.int .u64 0), .lit (.int .u64 0), .lit (.bool true)], p)) : cs = #[.int .u64 0, .int .u64 0, .bool true] := by
  obtain ⟨l⟩ := cs
  obtain ⟨y0, y1, y2, n, hx, hl, h0, h1, h2⟩ := Go.Deep.trod_struct3 Tryd.underlying29 hd
  rw [cells_point] at hl
  have e22 : Tryd.prog.cellsOf 22 = 1 := by kernel_rfl
  have e4 : Tryd.prog.cellsOf 4 = 1 := by kernel_rfl
  simp only [e22, e4] at h0 h1 h2
  obtain ⟨a, b, c, rfl⟩ : ∃ a b c, l = [a, b, c] := by
    match l, hl with
    | [a, b, c], _ => exact ⟨a, b, c, rfl⟩
  obtain ⟨n0, q0, rfl, _⟩ := DataW.trod_int Tryd.underlying22 h0
  obtain ⟨n1, q1, rfl, _⟩ := DataW.trod_int Tryd.underlying22 h1
  obtain ⟨n2, q2, rfl⟩ := DataW.trod_bool Tryd.underlying4 h2
  simp at q0 q1 q2 hx
  obtain ⟨⟨rfl, rfl, rfl⟩, _⟩ := hx
  rw [q0, q1, q2]
end Go.Proofs.YtjbiklbhelknfaaDoor.P
end
section
namespace Go.Proofs.YtjbiklbhelknfaaDoor.fnExactAgree
open Go.ChangeShapes Go.WideShapes Go.ChangeAt Go.RowKit
open Go.ChangeMaps (open_string shut_string)
set_option linter.unusedVariables false
set_option linter.unusedSimpArgs false
theorem cells_pt : Tryd.prog.cellsOf 24 = 3 := by kernel_rfl
theorem own : ownKnob Tryd.prog.godebug = none := by kernel_rfl
theorem g_roundWords : Tryd.prog.globalNamed "loop.example/s02095/impl.roundWords" = some 3 := by kernel_rfl
theorem ty_roundWords : (Tryd.prog.globals[3]?).map (·.type) = some 156 := by kernel_rfl
theorem cells_a : Tryd.prog.cellsOf 156 = 64 := by kernel_rfl
theorem cells_e : Tryd.prog.cellsOf 97 = 1 := by kernel_rfl
def c_roundWords : Array Value := (P.roundK.map fun z => Value.int .u32 z).toArray
abbrev d_roundWords {H : Type} : DataW H := .agg (P.roundK.map fun z => .lit (.int .u32 z))
theorem reads_roundWords {H : Type} (enc : TypeId × Value → H) (W : World) (sp : Nat → Bool) : DataW.trod enc Tryd.prog W 0 sp true 3 156 c_roundWords.toList = some (d_roundWords, []) := by kernel_rfl
theorem g_zero : Tryd.prog.globalNamed "loop.example/s02095/impl.zero" = some 2 := by kernel_rfl
theorem ty_zero : (Tryd.prog.globals[2]?).map (·.type) = some 29 := by kernel_rfl
def c_zero : Array Value := #[.int .u64 0, .int .u64 0, .bool true]
abbrev d_zero {H : Type} : DataW H := .agg [.lit (.int .u64 0), .lit (.int .u64 0), .lit (.bool true)]
theorem reads_zero {H : Type} (enc : TypeId × Value → H) (W : World) (sp : Nat → Bool) : DataW.trod enc Tryd.prog W 0 sp true 3 29 c_zero.toList = some (d_zero, []) := by kernel_rfl
theorem var_roundWords {W : World} (h : laidMetH Tryd.prog Rows.fnExactAgreeRow.laid W) : W.var? Tryd.prog "loop.example/s02095/impl.roundWords" = some c_roundWords := by
  have h0 : laidMet Tryd.prog Rows.fnExactAgreeRow.laid W := h
  exact Lib.tabIs_of_head (k := .u32) (zs := P.roundK) g_roundWords ty_roundWords Tryd.underlying156 Tryd.underlying97 cells_e cells_a h0
theorem var_zero {W : World} (h : laidMetH Tryd.prog Rows.fnExactAgreeRow.laid W) : W.var? Tryd.prog "loop.example/s02095/impl.zero" = some c_zero := by
  have h0 : laidMet Tryd.prog Rows.fnExactAgreeRow.laid W := h
  have h0 := laidMet.tail h0
  obtain ⟨ps, ⟨g, t, cs, fuel, p, q, hg, ht, hvar, hd, _, _⟩, _⟩ := h0
  obtain rfl := Option.some.inj (g_zero.symm.trans hg)
  obtain rfl := Option.some.inj (ty_zero.symm.trans ht)
  rw [hvar]
  congr 1
  exact P.zero_cells hd
theorem glob_roundWords {W : World} (h : laidMetH Tryd.prog Rows.fnExactAgreeRow.laid W) : P.Glob W := by
  have hv := var_roundWords h
  refine ⟨?_, fun i hi => ?_⟩
  · have c := World.var?_cell g_roundWords hv 0
    exact World.block_lt_of_cell? _ _ c
  · have c := World.var?_cell g_roundWords hv i
    rw [c, c_roundWords, List.getElem?_toArray, List.getElem?_map, List.getElem?_eq_getElem (by rw [P.roundK_length]; exact hi), Option.map_some, List.getD_eq_getElem?_getD, List.getElem?_eq_getElem (by rw [P.roundK_length]; exact hi)]
    rfl
theorem glob_zero {W : World} (h : laidMetH Tryd.prog Rows.fnExactAgreeRow.laid W) : P.GlobZ W := by
  have hv := var_zero h
  exact ⟨World.block_lt_of_cell? _ _ (World.var?_cell g_zero hv 0), World.var?_cell g_zero hv 0, World.var?_cell g_zero hv 1, World.var?_cell g_zero hv 2⟩
set_option maxRecDepth 100000 in
theorem contract (H : Type) (enc : TypeId × Value → H) (W : World) (base : Nat) (args : Array Value) (ds gs : List (DataW H)) (before : List MemPlace)
    (hval0 : ∀ (j : Nat) t v, Tryd.f5.params[j]? = some t → args[j]? = some v → Value.okWide Tryd.prog W .any base t v)
    (hW : DataW.Whole enc Tryd.prog Tryd.f5.params.toList Rows.fnExactAgreeSpec.vars false W args.toList ds gs before)
    (hsz0 : (DataW.weightsEach Tryd.prog (Tryd.f5.params.toList ++ Rows.fnExactAgreeSpec.plain.varTypes Tryd.prog) (ds ++ gs)).all (· ≤ reachBytes) = true) (hL : laidMetH Tryd.prog Rows.fnExactAgreeRow.laid W) :
    Calls Tryd.prog 5 args W fun e W' => ∃ v, e = .returned v ∧ Rows.fnExactAgreeSpec.post enc Tryd.prog Tryd.f5 false true false false W args v W' := by
  have hval : ∀ (j : Nat) t v, Tryd.f5.params[j]? = some t → args[j]? = some v → Value.okWide Tryd.prog W .any base t v := hval0
  have hsz := hsz0
  have hW' := hW
  obtain ⟨p, q, hA0, hV0, rfl, hfz, hnd⟩ := hW
  have hA : DataW.TrodAll enc Tryd.prog W 0 (fun _ => true) true Tryd.f5.params.toList args.toList ds p := hA0
  have hV : DataW.TrodVars enc Tryd.prog W (fun _ => true) ["loop.example/s02095/impl.zero", "loop.example/s02095/impl.roundWords"] gs q := hV0
  rw [Tryd.params5] at hA hval hsz
  obtain ⟨v0, vs0, d0, ds0, p0, q0, hargs, rfl, rfl, h0, r0⟩ := trodAll_cons hA
  obtain ⟨v1, vs1, d1, ds1, p1, q1, rfl, rfl, rfl, h1, r1⟩ := trodAll_cons r0
  obtain ⟨v2, vs2, d2, ds2, p2, q2, rfl, rfl, rfl, h2, r2⟩ := trodAll_cons r1
  obtain ⟨v3, vs3, d3, ds3, p3, q3, rfl, rfl, rfl, h3, r3⟩ := trodAll_cons r2
  obtain ⟨rfl, rfl, rfl⟩ := trodAll_nil r3
  obtain rfl : args = #[v0, v1, v2, v3] := by cases args; simp_all
  obtain ⟨e0_0, e0_1, e0_2, z0_0, z0_1, z0_2, m0, rfl, rfl, rfl, t0_0, t0_1, t0_2⟩ := Joins.open_agg3 Tryd.underlying24 (by kernel_rfl) cells_pt (hval 0 24 v0 rfl rfl) h0
  obtain ⟨a0_0, q0_0, rfl, w0_0⟩ := DataW.trod_int Tryd.underlying22 t0_0
  obtain ⟨a0_1, q0_1, rfl, w0_1⟩ := DataW.trod_int Tryd.underlying22 t0_1
  obtain ⟨a0_2, q0_2, rfl⟩ := DataW.trod_bool Tryd.underlying4 t0_2
  obtain rfl : e0_0 = .int .u64 a0_0 := by injection q0_0
  obtain rfl : e0_1 = .int .u64 a0_1 := by injection q0_1
  obtain rfl : e0_2 = .bool a0_2 := by injection q0_2
  obtain ⟨e1_0, e1_1, e1_2, z1_0, z1_1, z1_2, m1, rfl, rfl, rfl, t1_0, t1_1, t1_2⟩ := Joins.open_agg3 Tryd.underlying24 (by kernel_rfl) cells_pt (hval 1 24 v1 rfl rfl) h1
  obtain ⟨a1_0, q1_0, rfl, w1_0⟩ := DataW.trod_int Tryd.underlying22 t1_0
  obtain ⟨a1_1, q1_1, rfl, w1_1⟩ := DataW.trod_int Tryd.underlying22 t1_1
  obtain ⟨a1_2, q1_2, rfl⟩ := DataW.trod_bool Tryd.underlying4 t1_2
  obtain rfl : e1_0 = .int .u64 a1_0 := by injection q1_0
  obtain rfl : e1_1 = .int .u64 a1_1 := by injection q1_1
  obtain rfl : e1_2 = .bool a1_2 := by injection q1_2
  obtain ⟨e2_0, e2_1, e2_2, z2_0, z2_1, z2_2, m2, rfl, rfl, rfl, t2_0, t2_1, t2_2⟩ := Joins.open_agg3 Tryd.underlying24 (by kernel_rfl) cells_pt (hval 2 24 v2 rfl rfl) h2
  obtain ⟨a2_0, q2_0, rfl, w2_0⟩ := DataW.trod_int Tryd.underlying22 t2_0
  obtain ⟨a2_1, q2_1, rfl, w2_1⟩ := DataW.trod_int Tryd.underlying22 t2_1
  obtain ⟨a2_2, q2_2, rfl⟩ := DataW.trod_bool Tryd.underlying4 t2_2
  obtain rfl : e2_0 = .int .u64 a2_0 := by injection q2_0
  obtain rfl : e2_1 = .int .u64 a2_1 := by injection q2_1
  obtain rfl : e2_2 = .bool a2_2 := by injection q2_2
  obtain ⟨a3, rfl, rfl, rfl, y3⟩ := open_string Tryd.underlying9 (hval 3 9 v3 rfl rfl) h3
  have w3 : a3.size ≤ 140737488351232 := by
    have z := sized_string hsz (j := 3) (t := 9) rfl rfl
    rw [Array.length_toList] at z
    exact z
  obtain ⟨g0, t0, cs0, f0, d0', p0', g1, t1, cs1, f1, d1', p1', rfl, hg0, ht0, hv0, hd0, hg1, ht1, hv1, hd1, rfl⟩ := trodVars_two hV
  obtain rfl := Option.some.inj (g_zero.symm.trans hg0)
  obtain rfl := Option.some.inj (ty_zero.symm.trans ht0)
  obtain rfl : cs0 = c_zero := Option.some.inj (hv0.symm.trans (var_zero hL))
  obtain ⟨rfl, rfl⟩ := DataW.Trod.unique (v := .agg c_zero) ⟨f0, hd0⟩ ⟨3, reads_zero enc W _⟩
  obtain rfl := Option.some.inj (g_roundWords.symm.trans hg1)
  obtain rfl := Option.some.inj (ty_roundWords.symm.trans ht1)
  obtain rfl : cs1 = c_roundWords := Option.some.inj (hv1.symm.trans (var_roundWords hL))
  obtain ⟨rfl, rfl⟩ := DataW.Trod.unique (v := .agg c_roundWords) ⟨f1, hd1⟩ ⟨3, reads_roundWords enc W _⟩
  clear hA0 hval0 hsz0 hsz
  refine (P.FnExactAgree_walk a0_0 a0_1 a0_2 a1_0 a1_1 a1_2 a2_0 a2_1 a2_2 a3 W w0_0 w0_1 w1_0 w1_1 w2_0 w2_1 w3 (glob_roundWords hL) (glob_zero hL)).mono fun e W' ⟨he, bel⟩ => ?_
  subst he
  exact ⟨_, rfl, _, _, _, [], _, _, hW', trodAll_mk1 (shut_bool Tryd.underlying4 _), (trodAll_cons_mk (Joins.shut_agg3 Tryd.underlying24 (by kernel_rfl) cells_pt (shut_int Tryd.underlying22 w0_0) (shut_int Tryd.underlying22 w0_1) (shut_bool Tryd.underlying4 _)) (trodAll_cons_mk (Joins.shut_agg3 Tryd.underlying24 (by kernel_rfl) cells_pt (shut_int Tryd.underlying22 w1_0) (shut_int Tryd.underlying22 w1_1) (shut_bool Tryd.underlying4 _)) (trodAll_cons_mk (Joins.shut_agg3 Tryd.underlying24 (by kernel_rfl) cells_pt (shut_int Tryd.underlying22 w2_0) (shut_int Tryd.underlying22 w2_1) (shut_bool Tryd.underlying4 _)) (trodAll_cons_mk (shut_string Tryd.underlying9 y3) trodAll_mk0)))), ⟨2, 29, c_zero, 3, [], _, hg0, ht0, var?_below bel hg0 (glob_zero hL).1 hv0, reads_zero enc _ _, ⟨3, 156, c_roundWords, 3, [], [], hg1, ht1, var?_below bel hg1 (glob_roundWords hL).1 hv1, reads_roundWords enc _ _, rfl, rfl⟩, rfl⟩, bel.frame _, fun h => by cases h⟩
noncomputable def laidWorld (os : Os) : World := { World.holding Tryd.prog os ⟨#[], #[], []⟩ with heap := (((World.holding Tryd.prog os ⟨#[], #[], []⟩).heap.modify 3 fun
      | .cells _ t frozen => .cells c_roundWords t frozen
      | o => o).modify 2 fun
      | .cells _ t frozen => .cells c_zero t frozen
      | o => o) }
theorem of_map {α β γ : Type} {x : Option (α × β × γ)} {a : α} {b : β} (h : x.map (fun x => (x.1, x.2.1)) = some (a, b)) : ∃ c, x = some (a, b, c) := by
  obtain ⟨⟨a1, b1, c1⟩, rfl, e⟩ := Option.map_eq_some_iff.1 h
  cases e
  exact ⟨c1, rfl⟩
theorem laid_met (os : Os) : laidMet Tryd.prog Rows.fnExactAgreeRow.laid ((laidWorld os).forCall (fun _ _ => 0) ⟨#[], #[.agg #[.int .u64 0, .int .u64 0, .bool false], .agg #[.int .u64 0, .int .u64 0, .bool false], .agg #[.int .u64 0, .int .u64 0, .bool false], .string ByteArray.empty], []⟩).memory :=
  laidMet_of_run' 8 (by kernel_rfl) (by kernel_rfl)
theorem reads (os : Os) {H : Type} (enc : TypeId × Value → H) : ∃ places, DataW.whole enc Tryd.prog ((laidWorld os).forCall (fun _ _ => 0) ⟨#[], #[.agg #[.int .u64 0, .int .u64 0, .bool false], .agg #[.int .u64 0, .int .u64 0, .bool false], .agg #[.int .u64 0, .int .u64 0, .bool false], .string ByteArray.empty], []⟩).memory Tryd.f5.params.toList Rows.fnExactAgreeSpec.vars false (#[.agg #[.int .u64 0, .int .u64 0, .bool false], .agg #[.int .u64 0, .int .u64 0, .bool false], .agg #[.int .u64 0, .int .u64 0, .bool false], .string ByteArray.empty] : Array Value).toList 8 = some ([.agg [.lit (.int .u64 0), .lit (.int .u64 0), .lit (.bool false)], .agg [.lit (.int .u64 0), .lit (.int .u64 0), .lit (.bool false)], .agg [.lit (.int .u64 0), .lit (.int .u64 0), .lit (.bool false)], .lit (.string [])], [d_zero, d_roundWords], places) :=
  of_map (by kernel_rfl)
set_option maxRecDepth 100000 in
theorem lifted (os : Os) (started : os.Started) (H : Type) (enc : TypeId × Value → H) (F : Stop.Interp) :
    ReturnsInHanded {} Tryd.checked os 5 .any ((OpenSpec.ofChange Rows.fnExactAgreeSpec).preRow enc Tryd.prog Tryd.f5 Rows.fnExactAgreeRow.domain false Rows.fnExactAgreeRow.laid) (((OpenSpec.ofChange Rows.fnExactAgreeSpec).at F).post enc Tryd.prog Tryd.f5 false true false false) := by
  obtain ⟨places, hx⟩ := reads os enc
  refine returnsInHanded_of_row (C := Tryd.checked) (s := OpenSpec.ofChange Rows.fnExactAgreeSpec) own started (by kernel_rfl) Tryd.func5
    (witness_row_at (enc := enc) (C := Tryd.checked) false (laidWorld os) #[.agg #[.int .u64 0, .int .u64 0, .bool false], .agg #[.int .u64 0, .int .u64 0, .bool false], .agg #[.int .u64 0, .int .u64 0, .bool false], .string ByteArray.empty] rfl (by kernel_rfl) (by kernel_rfl) (by kernel_rfl)
      (OpenSpec.preRow_of_cond 8 hx (by kernel_rfl) (fun k hk => by cases hk) (by kernel_rfl) (laid_met os))) ?_
  intro W base args ds gs before hval hW _ _ hsz hL _ _
  exact contract H enc W base args ds gs before hval hW hsz hL
theorem said : Rows.FnExactAgreeSaid :=
  OpenClaim.holds_of_cond 5 Tryd.f5 rfl rfl rfl rfl rfl rfl rfl ⟨rfl, rfl, rfl, rfl, rfl⟩ rfl rfl rfl rfl rfl (by kernel_rfl) Tryd.func5 (by kernel_rfl)
    (of_decide_eq_true (by kernel_rfl)) (by unfold Func.isWrapper; first | (rw [if_pos (by decide +kernel)]; kernel_rfl) | (rw [if_neg (by decide +kernel)]; exact ⟨rfl, rfl⟩))
    (fun os started H enc _ F => by rw [OpenClaim.pre_eq_preRow]; exact lifted os started H enc F)
theorem plain (f : FuncId) (fn : Func) (hf : Tryd.pinned.checked.prog.funcNamed "loop.example/s02095/laws.FnExactAgree" = some f) (hfn : Tryd.pinned.checked.prog.funcs[f]? = some fn) :
    false = Tryd.pinned.checked.prog.looks [] ∧ ∀ (j : Nat) t, fn.params[j]? = some t → Tryd.pinned.checked.prog.wantsStandIn t = false := by
  obtain rfl : f = 5 := Option.some.inj ((show Tryd.prog.funcNamed "loop.example/s02095/laws.FnExactAgree" = some 5 by kernel_rfl).symm.trans hf) |>.symm
  obtain rfl : fn = Tryd.f5 := (Option.some.inj (Tryd.func5.symm.trans hfn)).symm
  refine ⟨by kernel_rfl, fun j t ht => ?_⟩
  rw [Tryd.params5] at ht
  have hm : ∀ t ∈ [24, 9], Tryd.prog.wantsStandIn t = false := by
    intro t ht
    simp only [List.mem_cons, List.not_mem_nil, or_false] at ht
    rcases ht with rfl | rfl <;> kernel_rfl
  exact hm t (by simpa using Array.mem_of_getElem? ht)
theorem card : Rows.FnExactAgreeCardSaid :=
  Claim7.holds_tied_plain_at .later [] _ _ _ _ said (fun _ h => by cases h) (by kernel_rfl) (fun _ h => by cases h) fnExactAgree_row_tie rfl ⟨rfl, rfl⟩ (by kernel_rfl) rfl plain (by kernel_rfl)
#print axioms card
end Go.Proofs.YtjbiklbhelknfaaDoor.fnExactAgree
namespace Go.Proofs.YtjbiklbhelknfaaDoor
theorem fnExactAgree_holds : Rows.FnExactAgreeCardSaid := fnExactAgree.card
end Go.Proofs.YtjbiklbhelknfaaDoor
end
