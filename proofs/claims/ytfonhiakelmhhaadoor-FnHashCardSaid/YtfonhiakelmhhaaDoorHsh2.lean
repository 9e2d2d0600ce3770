/- Hashes of the program are the reference's; Expand of fewer bytes is a beginning; ExpandMessage has as many bytes as asked for. Conditions: those of each theorem. Part 2 of 5. -/
import Derived.Test.YtfonhiakelmhhaaDoorProg
import Derived.Below
import Derived.Deep.Draws
import Derived.Deep.AppendLies
import Derived.Maps.AppendAt
import Derived.OwnWalk
import Derived.Laws.BytesArg
import Derived.Laws.MakeOwn
import Derived.Laws.OwnMore
import Derived.Deep.OwnRows
import Derived.Tactics
import Derived.Lib.ConvBytes
import Derived.Laws.Slices
import Derived.WalkKit
import Derived.KernelRfl
import Derived.RowKit3
import Derived.Deep.LoopGhost
import Derived.Deep.QuietTactic
import Derived.BigQuiet
import Derived.WideLaws
import Derived.Deep.DeepCutAuto
import Derived.Deep.CutBlock
import Derived.Deep.RegionHeld3
import Derived.Laws.Rows
import Derived.Lib.AppendStr
import Derived.ArgAppend
import Derived.Laws.IdiomCopy
import Derived.OrdersHeld
import Derived.Laws.BitsLemmas
import Derived.RowKit
import Derived.Test.YtfonhiakelmhhaaDoorHsh1
import Derived.Laws.StructEq
import Derived.WalkLawsBesides
import Derived.Lib.Hide
import Derived.StillTailTactics
import Derived.Shelf.Strings.Builder1
import Derived.Shelf.Strings.Builder2
import Derived.Shelf.Small.Bits
import Derived.Shelf.Strings.BuilderF
import Derived.Shelf.Strings.BuilderK
import Derived.Shelf.Strings.Builder2Cap
import Derived.Shelf.Strconv.Itoa0
import Derived.Shelf.Strconv.Itoa1
import Derived.Shelf.LaysM
import Derived.Shelf.Strconv.Itoa2
import Derived.Shelf.Strconv.Itoa3
import Derived.Shelf.Strings.Prefix
import Derived.Shelf.Bits.Mul64
import Derived.Shelf.Strings.Repeat
import Derived.Shelf.Strings.BuilderCap
import Derived.Laws.IdiomStrings
import Derived.Deep.RegionHeld
section
namespace Go.Proofs.YtfonhiakelmhhaaDoor.P
open Go.RowKit Go.Proofs.YtfonhiakelmhhaaDoorW.PrintWords Go.Proofs.YtfonhiakelmhhaaDoorW.PrintLast Go.Proofs.YtfonhiakelmhhaaDoorW.PrintMore
set_option linter.unusedVariables false
set_option linter.unusedSimpArgs false

def errW : Option Int → Value
  | none => .nilIface
  | some c => .iface 0 (.int .i64 c)
theorem errW_none : errW none = .nilIface := rfl
theorem errW_some (c : Int) : errW (some c) = .iface 0 (.int .i64 c) := rfl

theorem info5 : (Tryd.prog.info? 5).map (fun i => (i.zero, i.size, i.bytes)) = some (some (.int .u8 0), 1, 1) := by kernel_rfl
theorem info22 : (Tryd.prog.info? 22).map (fun i => (i.zero, i.size, i.bytes)) = some (some (.int .u64 0), 1, 8) := by kernel_rfl
theorem info103 : (Tryd.prog.info? 103).map (fun i => (i.zero, i.size, i.bytes)) = some (some (.int .u32 0), 1, 4) := by kernel_rfl
end Go.Proofs.YtfonhiakelmhhaaDoor.P
end
section
namespace Go.Proofs.YtfonhiakelmhhaaDoor.P
open Go.RowKit
def roundK : List Int := [1116352408, 1899447441, 3049323471, 3921009573, 961987163, 1508970993, 2453635748, 2870763221, 3624381080, 310598401, 607225278, 1426881987, 1925078388, 2162078206, 2614888103, 3248222580, 3835390401, 4022224774, 264347078, 604807628, 770255983, 1249150122, 1555081692, 1996064986, 2554220882, 2821834349, 2952996808, 3210313671, 3336571891, 3584528711, 113926993, 338241895, 666307205, 773529912, 1294757372, 1396182291, 1695183700, 1986661051, 2177026350, 2456956037, 2730485921, 2820302411, 3259730800, 3345764771, 3516065817, 3600352804, 4094571909, 275423344, 430227734, 506948616, 659060556, 883997877, 958139571, 1322822218, 1537002063, 1747873779, 1955562222, 2024104815, 2227730452, 2361852424, 2428436474, 2756734187, 3204031479, 3329325298]
def Glob (w : World) : Prop := 3 < w.heap.size ∧ ∀ i : Nat, i < 64 → w.cell? ⟨3, i, none⟩ = some (.int .u32 (roundK.getD i 0))
def NotG (b : Nat) : Prop := b ≠ 3
theorem Glob.of_below {w w' : World} (h : Glob w) (hb : Below w.heap.size w w') : Glob w' := by
  obtain ⟨h1, h2⟩ := h
  have hs := hb.size
  refine ⟨by omega, fun i hi => ?_⟩
  rw [hb.cell (p := ⟨3, i, none⟩) h1]; exact h2 i hi
end Go.Proofs.YtfonhiakelmhhaaDoor.P
end
section
namespace Go.Proofs.YtfonhiakelmhhaaDoor.P
open Go.RowKit Go.Proofs.YtfonhiakelmhhaaDoorW.PrintWords
set_option linter.unusedVariables false

def LA (w : World) (g : Nat) (t : TypeId) (L : List Value) : Prop := w.heap[g]? = some (.cells L.toArray t (0, 0))
section
variable {w w' : World} {g : Nat} {t : TypeId} {L : List Value}
theorem LA.lt (h : LA w g t L) : g < w.heap.size := by
  rcases Nat.lt_or_ge g w.heap.size with h' | h'
  · exact h'
  · simp [LA, Array.getElem?_eq_none h'] at h
theorem LA.cell (h : LA w g t L) {i : Nat} {v : Value} (hi : L[i]? = some v) : w.cell? ⟨g, i, none⟩ = some v := by
  simp only [World.cell?, show w.heap[g]? = some (.cells L.toArray t (0, 0)) from h]
  simpa using hi
theorem LA.free (h : LA w g t L) (i : Nat) : w.frozen? ⟨g, i, none⟩ = false := by
  simp [World.frozen?, show w.heap[g]? = some (.cells L.toArray t (0, 0)) from h]
theorem LA.set (h : LA w g t L) (i : Nat) (v : Value) : LA (w.setCell ⟨g, i, none⟩ v) g t (L.set i v) := by
  unfold LA at *
  simp only [World.setCell]
  rw [Array.getElem?_modify]
  simp [h]
theorem LA.other (h : LA w g t L) (p : Addr) (hp : p.block ≠ g) (v : Value) : LA (w.setCell p v) g t L := by
  unfold LA at *
  simp only [World.setCell]
  rw [Array.getElem?_modify]
  simp [h, hp]
theorem LA.below (h : LA w g t L) (hb : Below w.heap.size w w') : LA w' g t L := (hb.block g h.lt).trans h
theorem LA.grown (h : LA w g t L) {row : Option Nat} (hb : w.grownBy w' row) (hr : some g ≠ row) : LA w' g t L := (hb.block g h.lt hr).trans h
theorem LA.drew (h : LA w g t L) : LA w.drew g t L := h
theorem LA.drewN (h : LA w g t L) (n : Nat) : LA (w.drewN n) g t L := h
theorem LA.alloc (h : LA w g t L) (o : Obj) : LA (w.alloc o) g t L := h.below ((Below.refl _ _).alloc (Nat.le_refl _) _)
theorem LA.new (w : World) (t : TypeId) (L : List Value) : LA (w.alloc (.cells L.toArray t (0, 0))) w.heap.size t L := heap_alloc_new w _
end
theorem LA.set8 {w : World} {g : Nat} {t : TypeId} {y0 y1 y2 y3 y4 y5 y6 y7 : Value} (h : LA w g t [y0, y1, y2, y3, y4, y5, y6, y7]) (x0 x1 x2 x3 x4 x5 x6 x7 : Value) :
    LA ((((((((w.setCell ⟨g, 0, none⟩ x0).setCell ⟨g, 1, none⟩ x1).setCell ⟨g, 2, none⟩ x2).setCell ⟨g, 3, none⟩ x3).setCell ⟨g, 4, none⟩ x4).setCell ⟨g, 5, none⟩ x5).setCell ⟨g, 6, none⟩ x6).setCell ⟨g, 7, none⟩ x7) g t [x0, x1, x2, x3, x4, x5, x6, x7] :=
  (((((((h.set 0 x0).set 1 x1).set 2 x2).set 3 x3).set 4 x4).set 5 x5).set 6 x6).set 7 x7
theorem LA.other8 {w : World} {g g' : Nat} {t : TypeId} {L : List Value} (h : LA w g t L) (hg : g' ≠ g) (x0 x1 x2 x3 x4 x5 x6 x7 : Value) :
    LA ((((((((w.setCell ⟨g', 0, none⟩ x0).setCell ⟨g', 1, none⟩ x1).setCell ⟨g', 2, none⟩ x2).setCell ⟨g', 3, none⟩ x3).setCell ⟨g', 4, none⟩ x4).setCell ⟨g', 5, none⟩ x5).setCell ⟨g', 6, none⟩ x6).setCell ⟨g', 7, none⟩ x7) g t L :=
  (((((((h.other ⟨g', 0, none⟩ hg x0).other ⟨g', 1, none⟩ hg x1).other ⟨g', 2, none⟩ hg x2).other ⟨g', 3, none⟩ hg x3).other ⟨g', 4, none⟩ hg x4).other ⟨g', 5, none⟩ hg x5).other ⟨g', 6, none⟩ hg x6).other ⟨g', 7, none⟩ hg x7
theorem below8 {B : Nat} {w0 w : World} {g' : Nat} (h : Below B w0 w) (hg : B ≤ g') (x0 x1 x2 x3 x4 x5 x6 x7 : Value) :
    Below B w0 ((((((((w.setCell ⟨g', 0, none⟩ x0).setCell ⟨g', 1, none⟩ x1).setCell ⟨g', 2, none⟩ x2).setCell ⟨g', 3, none⟩ x3).setCell ⟨g', 4, none⟩ x4).setCell ⟨g', 5, none⟩ x5).setCell ⟨g', 6, none⟩ x6).setCell ⟨g', 7, none⟩ x7) :=
  (((((((h.setCell (p := ⟨g', 0, none⟩) hg x0).setCell (p := ⟨g', 1, none⟩) hg x1).setCell (p := ⟨g', 2, none⟩) hg x2).setCell (p := ⟨g', 3, none⟩) hg x3).setCell (p := ⟨g', 4, none⟩) hg x4).setCell (p := ⟨g', 5, none⟩) hg x5).setCell (p := ⟨g', 6, none⟩) hg x6).setCell (p := ⟨g', 7, none⟩) hg x7
def fillL (k : IntKind) (n : Nat) (xs : List Int) : List Value := (xs ++ List.replicate (n - xs.length) 0).map (Value.int k)
theorem fillL_get {k : IntKind} {n : Nat} {xs : List Int} {i : Nat} (h : i < xs.length) : (fillL k n xs)[i]? = some (.int k (xs.getD i 0)) := by
  unfold fillL
  rw [List.getElem?_map, List.getElem?_append_left h, List.getElem?_eq_getElem h]
  simp [List.getD_eq_getElem?_getD, List.getElem?_eq_getElem h]
theorem fillL_some {k : IntKind} {n : Nat} {xs : List Int} {i : Nat} (h : i < n) (hn : xs.length ≤ n) : ∃ v, (fillL k n xs)[i]? = some v := by
  have : i < (fillL k n xs).length := by simp [fillL]; omega
  exact ⟨_, List.getElem?_eq_getElem this⟩
theorem fillL_set {k : IntKind} {n : Nat} {xs : List Int} (x : Int) (h : xs.length < n) : (fillL k n xs).set xs.length (.int k x) = fillL k n (xs ++ [x]) := by
  unfold fillL
  obtain ⟨m, hm⟩ : ∃ m, n - xs.length = m + 1 := ⟨n - xs.length - 1, by omega⟩
  have e : n - (xs ++ [x]).length = m := by simp; omega
  rw [hm, e, List.replicate_succ]
  simp
theorem Below.row {w0 w1 w2 : World} {g : Nat} (h : Below w0.heap.size w0 w1) (hg : w0.heap.size ≤ g) (hk : w1.grownBy w2 (some g)) : Below w0.heap.size w0 w2 :=
  ⟨hk.os.trans h.os, hk.tape.trans h.tape, hk.output.trans h.output, Nat.le_trans h.size hk.size, fun i hi => (hk.block i (Nat.lt_of_lt_of_le hi h.size) (by intro e; injection e; omega)).trans (h.block i hi)⟩
section
variable {P : Program}
theorem run_loadVar_cells (w : World) (g o : Nat) (ty : TypeId) (cs : List Value) (d : TypeDesc) (hc : ∀ j v, cs[j]? = some v → w.cell? ⟨g, o + j, none⟩ = some v)
    (hu : P.underlying ty = some d) (hd : (match d with | .struct _ | .array _ _ => true | _ => false) = true) (hi : (P.info? ty).map (·.size) = some cs.length) :
    (loadVar ty ⟨g, o, none⟩).run P w = .ok (.agg cs.toArray) w := by
  have hl := run_loadCells_list (P := P) w ⟨g, o, none⟩ cs (fun j v hv => by
    have hadd : (⟨g, o, none⟩ : Addr).add j = ⟨g, o + j, none⟩ := by unfold Addr.add; split <;> simp_all
    rw [hadd]; exact hc j v hv)
  obtain ⟨i, hq, hs⟩ := Option.map_eq_some_iff.1 hi
  have hagg : (isAgg ty).run P w = .ok true w := by
    unfold isAgg
    rw [Sem.run_bind, run_underlying hu w]
    cases d <;> simp_all
  simp [loadVar, Sem.run_bind, hagg, sizeOf, typeInfo, hq, hs, hl]
theorem wpList_load_cells {ops : Array Oper} {rest : List Oper} {op : Oper} {a : Act} {w : World} {Q : Exit → Act → World → Prop} (hgd : op.guard = none) (ty : TypeId) (x : Operand) (ho : op.op = .load ty x)
    (g o : Nat) (hx : a.eval x = .pointer (some ⟨g, o, none⟩)) (cs : List Value) (d : TypeDesc) (hc : ∀ j v, cs[j]? = some v → w.cell? ⟨g, o + j, none⟩ = some v)
    (hu : P.underlying ty = some d) (hd : (match d with | .struct _ | .array _ _ => true | _ => false) = true) (hi : (P.info? ty).map (·.size) = some cs.length)
    (h : wpList P ops Q rest (a.put op.dst (.agg cs.toArray)) w) : wpList P ops Q (op :: rest) a w := by
  refine wpList_plain hgd fun K hK => ?_
  unfold Oper.wp execOp
  simp only [ho, hx, Instr.loadAt, Instr.sureAddr, Sem.run_bind, Sem.run_pure, Result.andThen_ok, run_loadVar_cells w g o ty cs d hc hu hd hi]
  exact hK _ _ h
theorem run_index_agg (w : World) (ty : TypeId) (n : Nat) (e : TypeId) (cs : List Value) (k : IntKind) (i : Nat) (v : Value) (hu : P.underlying ty = some (.array n e)) (hn : cs.length = n) (hs : ∀ W : World, (sizeOf e).run P W = .ok 1 W) (ha : ∀ W : World, (isAgg e).run P W = .ok false W) (hv : cs[i]? = some v) :
    (Instr.index ty (.agg cs.toArray) (.int .i64 (i : Int))).run P w = .ok v w := by
  have hi : i < cs.length := by
    rcases Nat.lt_or_ge i cs.length with h' | h'
    · exact h'
    · simp [List.getElem?_eq_none h'] at hv
  have hin : i < n := by omega
  have hv2 : cs[i] = v := by rw [List.getElem?_eq_getElem hi] at hv; exact Option.some.inj hv
  simp [Instr.index, asIntOf, run_underlying hu, hin, hs, part, ha, hi, hv2]
end
theorem grownBy_drew {w w1 : World} {row : Option Nat} (h : w.grownBy w1 row) : w.grownBy w1.drew row := ⟨h.os, h.tape, h.output, h.size, h.block⟩
theorem grownBy_set {w w1 : World} {g : Nat} (h : w.grownBy w1 (some g)) (i : Nat) (v : Value) : w.grownBy (w1.setCell ⟨g, i, none⟩ v) (some g) :=
  ⟨h.os, h.tape, h.output, by simpa [World.setCell] using h.size, fun k hk hne => (Below.heap_setCell w1 ⟨g, i, none⟩ v k (fun e => hne (by rw [e]))).trans (h.block k hk hne)⟩
theorem grownBy_alloc {w w1 : World} {row : Option Nat} (h : w.grownBy w1 row) (o : Obj) : w.grownBy (w1.alloc o) row :=
  ⟨h.os, h.tape, h.output, Nat.le_trans h.size (by simp), fun k hk hne => (Below.heap_alloc w1 o k (Nat.lt_of_lt_of_le hk h.size)).trans (h.block k hk hne)⟩
theorem grownBy_trans {w w1 w2 : World} {row : Option Nat} (h : w.grownBy w1 row) (k : w1.grownBy w2 row) : w.grownBy w2 row :=
  ⟨k.os.trans h.os, k.tape.trans h.tape, k.output.trans h.output, Nat.le_trans h.size k.size, fun i hi hne => (k.block i (Nat.lt_of_lt_of_le hi h.size) hne).trans (h.block i hi hne)⟩
theorem grownBy_refl (w : World) (row : Option Nat) : w.grownBy w row := ⟨rfl, rfl, rfl, Nat.le_refl _, fun _ _ _ => rfl⟩
end Go.Proofs.YtfonhiakelmhhaaDoor.P
end
section
namespace Go.Proofs.YtfonhiakelmhhaaDoor.P
open Go.RowKit Go.Proofs.YtfonhiakelmhhaaDoorW.PrintWords Go.Proofs.YtfonhiakelmhhaaDoorW.PrintLast Go.Proofs.YtfonhiakelmhhaaDoorW.PrintMore
set_option linter.unusedVariables false
set_option linter.unusedSimpArgs false

def bits_RotateLeft32.f (a0 : Int) (a1 : Int) : Option (Int) := if 0 ≤ (Go.bits .and .u64 (IntKind.u64.wrap (a1)) 31) then (if 0 ≤ (IntKind.u64.wrap (32 - (Go.bits .and .u64 (IntKind.u64.wrap (a1)) 31))) then (some (Go.bits .or .u32 (shl .u32 a0 (Go.bits .and .u64 (IntKind.u64.wrap (a1)) 31)) (shr .u32 a0 (IntKind.u64.wrap (32 - (Go.bits .and .u64 (IntKind.u64.wrap (a1)) 31)))))) else (none)) else (none)
end Go.Proofs.YtfonhiakelmhhaaDoor.P
end
section
namespace Go.Proofs.YtfonhiakelmhhaaDoor.P
open Go.RowKit Go.Proofs.YtfonhiakelmhhaaDoorW.PrintWords Go.Proofs.YtfonhiakelmhhaaDoorW.PrintLast Go.Proofs.YtfonhiakelmhhaaDoorW.PrintMore
set_option linter.unusedVariables false
set_option linter.unusedSimpArgs false

def hcells (st : S8) (blk : List Int) (fill size : Int) : Array Value := (st.list.map (Value.int .u32) ++ blk.map (Value.int .u8) ++ [Value.int .i64 fill, Value.int .u64 size]).toArray
structure HashAt (w : World) (b : Nat) (st : S8) (blk : List Int) (fill size : Int) : Prop where
  blk64 : blk.length = 64
  bytes : Bytes blk
  heap : w.heap[b]? = some (.cells (hcells st blk fill size) 185 (0, 0))
theorem HashAt.byte {w : World} {b : Nat} {st : S8} {blk : List Int} {fill size : Int} (h : HashAt w b st blk fill size) (j : Nat) (hj : j < 64) : w.cell? ⟨b, 8 + j, none⟩ = some (.int .u8 (blk.getD j 0)) := by
  simp only [World.cell?, h.heap, hcells]
  have h1 := h.blk64
  simp only [List.getElem?_toArray]
  rw [List.getElem?_append_left (by simp [S8.list]; omega), List.getElem?_append_right (by simp [S8.list]), List.getElem?_map]
  simp [S8.list, List.getD_eq_getElem?_getD, List.getElem?_eq_getElem (show j < blk.length by omega)]

theorem slice_arr (t e : TypeId) (n b o l : Nat) (hn : l < n) (ht : Tryd.prog.underlying t = some (.array n e)) (hs : ∀ W : World, (sizeOf e).run Tryd.prog W = .ok 1 W) (W : World) :
    (Instr.sliceAt t (.pointer (some ⟨b, o, none⟩)) (some (.int .i64 (l : Int))) none none).run Tryd.prog W = .ok (.slice (some ⟨b, o + l, none⟩) (n - l) (n - l)) W := by
  have e1 : ¬ n = l := by omega
  have e2 : (⟨b, o, none⟩ : Addr).add (l * 1) = ⟨b, o + l, none⟩ := by unfold Addr.add; split <;> simp_all
  have e3 : ¬ (n : Int) < (l : Int) := by omega
  simp [Instr.sliceAt, Instr.sureAddr, run_underlying ht, Instr.sliceBounds, run_sliceBound, hs, e1, show l ≤ n by omega]
  rw [← e2, Nat.mul_one]
theorem size5 (W : World) : (sizeOf 5).run Tryd.prog W = .ok 1 W := by kernel_rfl

theorem rot_f (x : Int) (n : Nat) (hn : 1 ≤ n) (hn' : n ≤ 31) : bits_RotateLeft32.f x (-(n : Int)) = some (rotr n x) := by
  have e1 : Go.bits .and .u64 (IntKind.u64.wrap (-(n : Int))) 31 = 32 - (n : Int) := by
    rw [IntKind.wrap_u64]
    rcases (show n = 1 ∨ n = 2 ∨ n = 3 ∨ n = 4 ∨ n = 5 ∨ n = 6 ∨ n = 7 ∨ n = 8 ∨ n = 9 ∨ n = 10 ∨ n = 11 ∨ n = 12 ∨ n = 13 ∨ n = 14 ∨ n = 15 ∨ n = 16 ∨ n = 17 ∨ n = 18 ∨ n = 19 ∨ n = 20 ∨ n = 21 ∨ n = 22 ∨ n = 23 ∨ n = 24 ∨ n = 25 ∨ n = 26 ∨ n = 27 ∨ n = 28 ∨ n = 29 ∨ n = 30 ∨ n = 31 by omega) with rfl | rfl | rfl | rfl | rfl | rfl | rfl | rfl | rfl | rfl | rfl | rfl | rfl | rfl | rfl | rfl | rfl | rfl | rfl | rfl | rfl | rfl | rfl | rfl | rfl | rfl | rfl | rfl | rfl | rfl | rfl <;> decide +kernel
  have e2 : IntKind.u64.wrap (32 - (32 - (n : Int))) = (n : Int) := by rw [IntKind.wrap_u64]; omega
  unfold bits_RotateLeft32.f
  rw [e1, if_pos (by omega), e2, if_pos (by omega)]
  congr 1
  unfold rotr shl shr
  have m1 : min (32 - (n : Int)).toNat IntKind.u32.bits = 32 - n := by show min (32 - (n : Int)).toNat 32 = 32 - n; omega
  have m2 : min (n : Int).toNat IntKind.u32.bits = n := by show min (n : Int).toNat 32 = n; omega
  rw [m1, m2, IntKind.wrap_u32]
  simp only [bits, BitVec.or_comm]
set_option maxRecDepth 100000 in
theorem rot_calls (x : Int) (n : Nat) (hn : 1 ≤ n) (hn' : n ≤ 31) (y : Int) (hy : y = -(n : Int)) (w : World) : Calls Tryd.prog 177 #[.int .u32 x, .int .i64 y] w fun e w' => e = .returned (.int .u32 (rotr n x)) ∧ w' = w := by
  subst hy
  have hf := rot_f x n hn hn'
  unfold bits_RotateLeft32.f at hf
  split at hf
  case isFalse => cases hf
  case isTrue h1 =>
  split at hf
  case isFalse => cases hf
  case isTrue h2 =>
  have hr := Option.some.inj hf
  clear hf
  unfold shl shr at hr
  rw [IntKind.wrap_u32] at hr
  have HR := Aside0.mk hr
  clear hr
  generalize hs : Go.bits .and .u64 (IntKind.u64.wrap (-(n : Int))) 31 = sq at *
  generalize ht : IntKind.u64.wrap (32 - sq) = tq at *
  go_enter Tryd.func177, Tryd.ntmps177
  go_wp2
  go_ret
  exact ⟨congrArg (fun z => Ending.returned (Value.int .u32 z)) HR.out, rfl⟩

def mixS (s r : S8) (i : Nat) : List Int := (List.range 8).map fun j => if j < i then (s.list.getD j 0 + r.list.getD j 0) % 4294967296 else s.list.getD j 0
def mixL (s r : S8) (i : Nat) (blk : List Int) (fill size : Int) : List Value := (mixS s r i).map (Value.int .u32) ++ blk.map (Value.int .u8) ++ [Value.int .i64 fill, Value.int .u64 size]
theorem mixL_get (s r : S8) (i : Nat) (blk : List Int) (fill size : Int) (h : i < 8) : (mixL s r i blk fill size)[i]? = some (.int .u32 (s.list.getD i 0)) := by
  rcases (show i = 0 ∨ i = 1 ∨ i = 2 ∨ i = 3 ∨ i = 4 ∨ i = 5 ∨ i = 6 ∨ i = 7 by omega) with rfl | rfl | rfl | rfl | rfl | rfl | rfl | rfl <;> rfl
theorem mixL_set (s r : S8) (i : Nat) (blk : List Int) (fill size : Int) (h : i < 8) : (mixL s r i blk fill size).set i (.int .u32 ((s.list.getD i 0 + r.list.getD i 0) % 4294967296)) = mixL s r (i + 1) blk fill size := by
  rcases (show i = 0 ∨ i = 1 ∨ i = 2 ∨ i = 3 ∨ i = 4 ∨ i = 5 ∨ i = 6 ∨ i = 7 by omega) with rfl | rfl | rfl | rfl | rfl | rfl | rfl | rfl <;> rfl
theorem list8_get (r : S8) (i : Nat) (h : i < 8) : (r.list.map (Value.int .u32))[i]? = some (.int .u32 (r.list.getD i 0)) := by
  rcases (show i = 0 ∨ i = 1 ∨ i = 2 ∨ i = 3 ∨ i = 4 ∨ i = 5 ∨ i = 6 ∨ i = 7 by omega) with rfl | rfl | rfl | rfl | rfl | rfl | rfl | rfl <;> rfl
theorem size97 (W : World) : (sizeOf 103).run Tryd.prog W = .ok 1 W := by kernel_rfl
theorem agg97 (W : World) : (isAgg 103).run Tryd.prog W = .ok false W := by kernel_rfl
theorem roundK_length : roundK.length = 64 := rfl
theorem roundK_get (n : Nat) (h : n < 64) : (roundK.map (Value.int .u32))[n]? = some (.int .u32 (roundK.getD n 0)) := by
  rw [List.getElem?_map, List.getElem?_eq_getElem (by rw [roundK_length]; exact h)]
  simp [List.getD_eq_getElem?_getD, List.getElem?_eq_getElem (show n < roundK.length by rw [roundK_length]; exact h)]
theorem glob_word {w : World} (h : Glob w) {j : Nat} {v : Value} (hv : (roundK.map (Value.int .u32))[j]? = some v) : w.cell? ⟨3, 0 + j, none⟩ = some v := by
  have hj : j < 64 := by
    rcases Nat.lt_or_ge j 64 with h' | h'
    · exact h'
    · rw [List.getElem?_eq_none (by simp [roundK_length]; exact h')] at hv; cases hv
  rw [roundK_get j hj] at hv
  obtain rfl := Option.some.inj hv
  rw [Nat.zero_add]
  exact h.2 j hj
set_option maxHeartbeats 16000000 in
set_option maxRecDepth 100000 in
theorem turn_calls (b : Nat) (st : S8) (blk : List Int) (fill size : Int) (w : World) (h : HashAt w b st blk fill size) (hG : Glob w) :
    Calls Tryd.prog 168 #[.pointer (some ⟨b, 0, none⟩)] w fun e w' => e = .returned (.tuple #[]) ∧ HashAt w' b (compress8 roundK st blk) blk fill size ∧ w.grownBy w' (some b) := by
  have hbl : b < w.heap.size := by
    rcases Nat.lt_or_ge b w.heap.size with h' | h'
    · exact h'
    · have := h.heap; simp [Array.getElem?_eq_none h'] at this
  have HH := Aside0.mk h
  have HG := Aside0.mk hG
  clear h hG
  go_enter Tryd.func168, Tryd.ntmps168
  go_wp2_with fail
  go_loopw [3, 4, 16] (fun v3 v4 v16 wr => ∃ i : Nat, i ≤ 16 ∧ v16 = .int .i64 i ∧ Aside0 (LA wr w.heap.size 206 (fillL .u32 64 (wList blk i))) ∧ Aside0 (Below w.heap.size w wr)) (fun _ _ v16 _ => 16 - (intOf v16).toNat)
  case atStart => exact ⟨0, by omega, rfl, ⟨LA.new w _ (fillL .u32 64 [])⟩, ⟨(Below.refl _ _).alloc (Nat.le_refl _) _⟩⟩
  case round =>
    obtain ⟨i, hi, rfl, HC, HB⟩ := hrel
    have hz := HB.out.size
    by_cases hlt : i < 16
    · have hsl : ∀ W, (Instr.sliceAt 183 (.pointer (some ⟨b, 8, none⟩)) (some (.int .i64 (4 * (i : Int)))) none none).run Tryd.prog W = .ok (.slice (some ⟨b, 8 + 4 * i, none⟩) (64 - 4 * i) (64 - 4 * i)) W := fun W => by
        have := slice_arr 183 5 64 b 8 (4 * i) (by omega) Tryd.underlying183 size5 W
        simpa using this
      have q0 : wr.cell? ⟨b, 8 + 4 * i, none⟩ = some (.int .u8 (blk.getD (4 * i) 0)) := (HB.out.cell (p := ⟨b, 8 + 4 * i, none⟩) hbl).trans (HH.out.byte (4 * i) (by omega))
      have q1 : wr.cell? ⟨b, 8 + 4 * i + 1, none⟩ = some (.int .u8 (blk.getD (4 * i + 1) 0)) := (HB.out.cell (p := ⟨b, 8 + 4 * i + 1, none⟩) hbl).trans (HH.out.byte (4 * i + 1) (by omega))
      have q2 : wr.cell? ⟨b, 8 + 4 * i + 2, none⟩ = some (.int .u8 (blk.getD (4 * i + 2) 0)) := (HB.out.cell (p := ⟨b, 8 + 4 * i + 2, none⟩) hbl).trans (HH.out.byte (4 * i + 2) (by omega))
      have q3 : wr.cell? ⟨b, 8 + 4 * i + 3, none⟩ = some (.int .u8 (blk.getD (4 * i + 3) 0)) := (HB.out.cell (p := ⟨b, 8 + 4 * i + 3, none⟩) hbl).trans (HH.out.byte (4 * i + 3) (by omega))
      have y0 := HH.out.bytes.getD (4 * i)
      have y1 := HH.out.bytes.getD (4 * i + 1)
      have y2 := HH.out.bytes.getD (4 * i + 2)
      have y3 := HH.out.bytes.getD (4 * i + 3)
      have HN : Aside0 (wList blk (i + 1) = wList blk i ++ [Go.bits .or .u32 (Go.bits .or .u32 (Go.bits .or .u32 (blk.getD (4 * i) 0 * 16777216) (blk.getD (4 * i + 1) 0 * 65536)) (blk.getD (4 * i + 2) 0 * 256)) (blk.getD (4 * i + 3) 0)]) := ⟨by rw [wList, if_pos hlt]; rfl⟩
      generalize blk.getD (4 * i) 0 = z0 at q0 y0 HN
      generalize blk.getD (4 * i + 1) 0 = z1 at q1 y1 HN
      generalize blk.getD (4 * i + 2) 0 = z2 at q2 y2 HN
      generalize blk.getD (4 * i + 3) 0 = z3 at q3 y3 HN
      obtain ⟨y00, y01⟩ := y0
      obtain ⟨y10, y11⟩ := y1
      obtain ⟨y20, y21⟩ := y2
      obtain ⟨y30, y31⟩ := y3
      go_wp2_with fail
      have g0 : 0 < 64 - 4 * i := by omega
      have g1 : (1 : Int) < ((64 - 4 * i : Nat) : Int) := by omega
      have g2 : (2 : Int) < ((64 - 4 * i : Nat) : Int) := by omega
      have g3 : (3 : Int) < ((64 - 4 * i : Nat) : Int) := by omega
      have w0 : IntKind.u32.wrap z0 = z0 := by rw [IntKind.wrap_u32]; omega
      have w1 : IntKind.u32.wrap z1 = z1 := by rw [IntKind.wrap_u32]; omega
      have w2 : IntKind.u32.wrap z2 = z2 := by rw [IntKind.wrap_u32]; omega
      have w3 : IntKind.u32.wrap z3 = z3 := by rw [IntKind.wrap_u32]; omega
      have w00 : IntKind.u32.wrap (z0 * 16777216) = z0 * 16777216 := by rw [IntKind.wrap_u32]; omega
      have w11 : IntKind.u32.wrap (z1 * 65536) = z1 * 65536 := by rw [IntKind.wrap_u32]; omega
      have w22 : IntKind.u32.wrap (z2 * 256) = z2 * 256 := by rw [IntKind.wrap_u32]; omega
      have g4 : (i : Int) < 64 := by omega
      go_still_tail 24, (by kernel_rfl)
      change wpList _ _ _ _ _ wr.drew
      have HCd : Aside0 (LA wr.drew w.heap.size 206 (fillL .u32 64 (wList blk i))) := ⟨HC.out.drew⟩
      have HBd : Aside0 (Below w.heap.size w wr.drew) := ⟨HB.out.drew⟩
      clear q0 q1 q2 q3 w0 w1 w2 w3 w00 w11 w22 HC HB
      generalize wr.drew = wd at HCd HBd ⊢
      obtain ⟨x0, hx0⟩ := fillL_some (k := .u32) (n := 64) (xs := wList blk i) (i := i) (by omega) (by rw [wList_length]; omega)
      have s1 := HCd.out.cell hx0
      have s2 := HCd.out.free i
      clear hx0
      go_wp2_with fail
      refine ⟨⟨i + 1, by omega, by simp, ⟨?_⟩, ⟨HBd.out.setCell (p := ⟨w.heap.size, i, none⟩) (Nat.le_refl _) _⟩⟩, by simp [intOf]; omega⟩
      have e := HCd.out.set i (.int .u32 (Go.bits .or .u32 (Go.bits .or .u32 (Go.bits .or .u32 (z0 * 16777216) (z1 * 65536)) (z2 * 256)) z3))
      have e2 := fillL_set (k := .u32) (n := 64) (xs := wList blk i) (Go.bits .or .u32 (Go.bits .or .u32 (Go.bits .or .u32 (z0 * 16777216) (z1 * 65536)) (z2 * 256)) z3) (by rw [wList_length]; omega)
      rw [wList_length] at e2
      rw [e2, ← HN.out] at e
      exact e
    · have hi16 : i = 16 := by omega
      have HC16 : Aside0 (LA wr w.heap.size 206 (fillL .u32 64 (wList blk 16))) := ⟨by have e := HC.out; rw [hi16] at e; exact e⟩
      clear hi16
      have t16 : decide ((i : Int) < 16) = false := decide_eq_false (by omega)
      go_wp2_with fail
      go_loopw [5, 6, 7] (fun v5 v6 v7 wq => ∃ j : Nat, 16 ≤ j ∧ j ≤ 64 ∧ v5 = .int .i64 j ∧ Aside0 (LA wq w.heap.size 206 (fillL .u32 64 (wList blk j))) ∧ Aside0 (Below w.heap.size w wq)) (fun v5 _ _ _ => 64 - (intOf v5).toNat)
      case atStart => exact ⟨16, by omega, by omega, rfl, HC16, HB⟩
      case round =>
        clear HC HB hz hi hlt HC16
        obtain ⟨j, hi, hi2, rfl, HC, HB⟩ := hrel
        have hz := HB.out.size
        by_cases hlt : j < 64
        · have ht : decide ((j : Int) < 64) = true := decide_eq_true (by omega)
          go_wp2_with fail
          have a15 : IntKind.i64.wrap ((j : Int) - 15) = (j : Int) - 15 := IntWalk.i64_in _ (by omega)
          have a2 : IntKind.i64.wrap ((j : Int) - 2) = (j : Int) - 2 := IntWalk.i64_in _ (by omega)
          have b15 : 0 ≤ (j : Int) - 15 := by omega
          have b2 : 0 ≤ (j : Int) - 2 := by omega
          have c15 : (j : Int) - 15 < 64 := by omega
          have c2 : (j : Int) - 2 < 64 := by omega
          have d15 : ((j : Int) - 15).toNat = j - 15 := by omega
          have d2 : ((j : Int) - 2).toNat = j - 2 := by omega
          have q15 := HC.out.cell (fillL_get (k := .u32) (n := 64) (xs := wList blk j) (i := j - 15) (by rw [wList_length]; omega))
          have q2 := HC.out.cell (fillL_get (k := .u32) (n := 64) (xs := wList blk j) (i := j - 2) (by rw [wList_length]; omega))
          have hN : wList blk (j + 1) = wList blk j ++ [((wList blk j).getD (j - 16) 0 + sg0 ((wList blk j).getD (j - 15) 0) + (wList blk j).getD (j - 7) 0 + sg1 ((wList blk j).getD (j - 2) 0)) % 4294967296] := by
            rw [wList, if_neg (by omega)]; rfl
          generalize hx15 : (wList blk j).getD (j - 15) 0 = x15 at q15 hN
          generalize hx2 : (wList blk j).getD (j - 2) 0 = x2 at q2 hN
          have HN := Aside0.mk hN
          clear hx15 hx2 hN
          go_quiet (fail)
          have HCd : Aside0 (LA (wr.drewN nq) w.heap.size 206 (fillL .u32 64 (wList blk j))) := ⟨HC.out.drewN nq⟩
          have HBd : Aside0 (Below w.heap.size w (wr.drewN nq)) := ⟨pw_below_drewN HB.out nq⟩
          clear q15 q2 HC HB hz
          generalize wr.drewN nq = wd at HCd HBd ⊢
          go_wp2_with fail
          have a16 : IntKind.i64.wrap ((j : Int) - 16) = (j : Int) - 16 := IntWalk.i64_in _ (by omega)
          have a7 : IntKind.i64.wrap ((j : Int) - 7) = (j : Int) - 7 := IntWalk.i64_in _ (by omega)
          have b16 : 0 ≤ (j : Int) - 16 := by omega
          have b7 : 0 ≤ (j : Int) - 7 := by omega
          have c16 : (j : Int) - 16 < 64 := by omega
          have c7 : (j : Int) - 7 < 64 := by omega
          have d16 : ((j : Int) - 16).toNat = j - 16 := by omega
          have d7 : ((j : Int) - 7).toNat = j - 7 := by omega
          have c0 : (j : Int) < 64 := by omega
          have f16 : (16 : Int) ≤ (j : Int) := by omega
          have f7 : (7 : Int) ≤ (j : Int) := by omega
          have q16 := HCd.out.cell (fillL_get (k := .u32) (n := 64) (xs := wList blk j) (i := j - 16) (by rw [wList_length]; omega))
          have q7 := HCd.out.cell (fillL_get (k := .u32) (n := 64) (xs := wList blk j) (i := j - 7) (by rw [wList_length]; omega))
          have hN2 := HN.out
          clear HN
          generalize (wList blk j).getD (j - 16) 0 = x16 at q16 hN2
          generalize (wList blk j).getD (j - 7) 0 = x7 at q7 hN2
          have HN := Aside0.mk hN2
          clear hN2
          go_still_tail 29, (by kernel_rfl)
          still_call (rot_calls x15 7 (by omega) (by omega) (-7) rfl _)
          repeat still_step
          still_call (rot_calls x15 18 (by omega) (by omega) (-18) rfl _)
          repeat still_step
          still_call (rot_calls x2 17 (by omega) (by omega) (-17) rfl _)
          repeat still_step
          still_call (rot_calls x2 19 (by omega) (by omega) (-19) rfl _)
          repeat still_step
          refine wpStill_nil ?_
          change wpList _ _ _ _ _ wd.drew
          have HCe : Aside0 (LA wd.drew w.heap.size 206 (fillL .u32 64 (wList blk j))) := ⟨HCd.out.drew⟩
          have HBe : Aside0 (Below w.heap.size w wd.drew) := ⟨HBd.out.drew⟩
          clear q16 q7 HCd HBd
          generalize wd.drew = we at HCe HBe ⊢
          obtain ⟨x0, hx0⟩ := fillL_some (k := .u32) (n := 64) (xs := wList blk j) (i := j) (by omega) (by rw [wList_length]; omega)
          have s1 := HCe.out.cell hx0
          have s2 := HCe.out.free j
          clear hx0
          go_wp2_with fail
          refine ⟨⟨j + 1, by omega, by omega, by simp, ⟨?_⟩, ⟨HBe.out.setCell (p := ⟨w.heap.size, j, none⟩) (Nat.le_refl _) _⟩⟩, by simp [intOf]; omega⟩
          have eN : (x16 + x7 + sg0 x15 + sg1 x2) % 4294967296 = (x16 + sg0 x15 + x7 + sg1 x2) % 4294967296 := by congr 1; omega
          have e := HCe.out.set j (.int .u32 ((x16 + x7 + sg0 x15 + sg1 x2) % 4294967296))
          have e2 := fillL_set (k := .u32) (n := 64) (xs := wList blk j) ((x16 + x7 + sg0 x15 + sg1 x2) % 4294967296) (by rw [wList_length]; omega)
          rw [wList_length] at e2
          have eH := HN.out
          rw [← eN] at eH
          rw [e2, ← eH] at e
          exact e
        · have hj64 : j = 64 := by omega
          have ht : decide ((j : Int) < 64) = false := decide_eq_false (by omega)
          have HC64 : Aside0 (LA wr w.heap.size 206 (fillL .u32 64 (wList blk 64))) := ⟨by have e := HC.out; rw [hj64] at e; exact e⟩
          clear hj64 HC
          have HHr : Aside0 (LA wr b 185 (st.list.map (Value.int .u32) ++ blk.map (Value.int .u8) ++ [Value.int .i64 fill, Value.int .u64 size])) := ⟨(HB.out.block b hbl).trans HH.out.heap⟩
          have HGr : Aside0 (Glob wr) := ⟨HG.out.of_below HB.out⟩
          obtain ⟨sa, sb, sc, sd, se, sf, sg, sh⟩ := st
          have l0 := HHr.out.cell (i := 0) (v := .int .u32 sa) rfl
          have l1 := HHr.out.cell (i := 1) (v := .int .u32 sb) rfl
          have l2 := HHr.out.cell (i := 2) (v := .int .u32 sc) rfl
          have l3 := HHr.out.cell (i := 3) (v := .int .u32 sd) rfl
          have l4 := HHr.out.cell (i := 4) (v := .int .u32 se) rfl
          have l5 := HHr.out.cell (i := 5) (v := .int .u32 sf) rfl
          have l6 := HHr.out.cell (i := 6) (v := .int .u32 sg) rfl
          have l7 := HHr.out.cell (i := 7) (v := .int .u32 sh) rfl
          have hz := HB.out.size
          obtain ⟨KL, hKL⟩ : ∃ KL : List Value, KL = roundK.map (Value.int .u32) := ⟨_, rfl⟩
          have HKL := Aside0.mk hKL
          have hKs : (Tryd.prog.info? 206).map (·.size) = some KL.length := by rw [hKL]; kernel_rfl
          have HKS := Aside0.mk hKs
          clear hKL hKs
          go_wp2_with ((with_reducible refine gate_dst (N := 95) rfl ?_); refine wpList_load_cells rfl 206 (.global 3) rfl 3 0 rfl KL _ (fun j v hv => ?_) Tryd.underlying206 rfl HKS.out ?_; (focus (rw [HKL.out] at hv; exact glob_word (HGr.out.of_below ((Below.refl _ _).alloc (Nat.le_refl _) _)) hv)))
          have hlen := HKS.out
          have HW1 : Aside0 (LA (wr.alloc (.cells #[.int .u32 sa, .int .u32 sb, .int .u32 sc, .int .u32 sd, .int .u32 se, .int .u32 sf, .int .u32 sg, .int .u32 sh] 182)) w.heap.size 206 (fillL .u32 64 (wList blk 64))) := ⟨HC64.out.alloc _⟩
          have HS1 : Aside0 (LA (wr.alloc (.cells #[.int .u32 sa, .int .u32 sb, .int .u32 sc, .int .u32 sd, .int .u32 se, .int .u32 sf, .int .u32 sg, .int .u32 sh] 182)) wr.heap.size 182 ((S8.mk sa sb sc sd se sf sg sh).list.map (Value.int .u32))) := ⟨LA.new wr _ _⟩
          have HB1 : Aside0 (Below w.heap.size w (wr.alloc (.cells #[.int .u32 sa, .int .u32 sb, .int .u32 sc, .int .u32 sd, .int .u32 se, .int .u32 sf, .int .u32 sg, .int .u32 sh] 182))) := ⟨HB.out.alloc hz _⟩
          clear hlen l0 l1 l2 l3 l4 l5 l6 l7
          obtain ⟨gs, hgs⟩ : ∃ gs, gs = wr.heap.size := ⟨_, rfl⟩
          have hgs1 : w.heap.size ≤ gs := by omega
          have hgs2 : w.heap.size ≠ gs := by have := HC64.out.lt; omega
          rw [← hgs] at HS1 ⊢
          have HGS := Aside0.mk hgs
          clear hgs
          generalize (wr.alloc (.cells #[.int .u32 sa, .int .u32 sb, .int .u32 sc, .int .u32 sd, .int .u32 se, .int .u32 sf, .int .u32 sg, .int .u32 sh] 182)) = w1 at HW1 HS1 HB1 ⊢
          go_loopw [9, 10, 11, 12, 13, 14, 96] (fun v9 v10 v11 v12 v13 v14 v96 wq => ∃ n : Nat, n ≤ 64 ∧ v96 = .int .i64 n ∧ Aside0 (LA wq w.heap.size 206 (fillL .u32 64 (wList blk 64))) ∧ Aside0 (LA wq gs 182 ((rounds8 roundK (wList blk 64) n (S8.mk sa sb sc sd se sf sg sh)).list.map (Value.int .u32))) ∧ Aside0 (Below w.heap.size w wq)) (fun _ _ _ _ _ _ v96 _ => 64 - (intOf v96).toNat)
          case atStart => exact ⟨0, by omega, rfl, HW1, HS1, HB1⟩
          case round =>
            clear HW1 HS1 HB1 HC64 HHr HGr HB hz
            obtain ⟨n, hn, rfl, HW, HS, HB⟩ := hrel
            have hz := HB.out.size
            by_cases hlt : n < 64
            · have ht : decide ((n : Int) < 64) = true := decide_eq_true (by omega)
              have hix : ∀ W, (Instr.index 206 (.agg KL.toArray) (.int .i64 (n : Int))).run Tryd.prog W = .ok (.int .u32 (roundK.getD n 0)) W := fun W =>
                run_index_agg W 206 64 103 KL .u32 n _ Tryd.underlying206 (by rw [HKL.out]; rfl) size97 agg97 (by rw [HKL.out]; exact roundK_get n hlt)
              have hnx : rounds8 roundK (wList blk 64) (n + 1) (S8.mk sa sb sc sd se sf sg sh) = step8 (rounds8 roundK (wList blk 64) n (S8.mk sa sb sc sd se sf sg sh)) (roundK.getD n 0) ((wList blk 64).getD n 0) := rfl
              have hwn := fillL_get (k := .u32) (n := 64) (xs := wList blk 64) (i := n) (by rw [wList_length]; exact hlt)
              generalize roundK.getD n 0 = kn at hix hnx
              generalize (wList blk 64).getD n 0 = wn at hwn hnx
              generalize rounds8 roundK (wList blk 64) n (S8.mk sa sb sc sd se sf sg sh) = rr at HS hnx
              obtain ⟨ra, rb, rc, rd', re, rf, rg, rh⟩ := rr
              have HNX := Aside0.mk hnx
              have HWN := Aside0.mk hwn
              clear hnx hwn
              have m0 := HS.out.cell (i := 0) (v := .int .u32 ra) rfl
              have m4 := HS.out.cell (i := 4) (v := .int .u32 re) rfl
              go_wp2_with fail
              go_quiet (fail)
              have HWd : Aside0 (LA (wr.drewN nq) w.heap.size 206 (fillL .u32 64 (wList blk 64))) := ⟨HW.out.drewN nq⟩
              have HSd : Aside0 (LA (wr.drewN nq) gs 182 ((S8.mk ra rb rc rd' re rf rg rh).list.map (Value.int .u32))) := ⟨HS.out.drewN nq⟩
              have HBd : Aside0 (Below w.heap.size w (wr.drewN nq)) := ⟨pw_below_drewN HB.out nq⟩
              clear m0 m4 HW HS HB hz
              generalize wr.drewN nq = w2 at HWd HSd HBd ⊢
              have m5 := HSd.out.cell (i := 5) (v := .int .u32 rf) rfl
              have m6 := HSd.out.cell (i := 6) (v := .int .u32 rg) rfl
              have m7 := HSd.out.cell (i := 7) (v := .int .u32 rh) rfl
              have mw := HWd.out.cell HWN.out
              have n64 : (n : Int) < 64 := by omega
              go_wp2_with fail
              go_quiet ((go_at_call 177; first | exact Calls.quiet_of_same (rot_calls _ 6 (by omega) (by omega) _ (by decide) _) | exact Calls.quiet_of_same (rot_calls _ 11 (by omega) (by omega) _ (by decide) _) | exact Calls.quiet_of_same (rot_calls _ 25 (by omega) (by omega) _ (by decide) _)))
              have HWe : Aside0 (LA (w2.drewN nq) w.heap.size 206 (fillL .u32 64 (wList blk 64))) := ⟨HWd.out.drewN nq⟩
              have HSe : Aside0 (LA (w2.drewN nq) gs 182 ((S8.mk ra rb rc rd' re rf rg rh).list.map (Value.int .u32))) := ⟨HSd.out.drewN nq⟩
              have HBe : Aside0 (Below w.heap.size w (w2.drewN nq)) := ⟨pw_below_drewN HBd.out nq⟩
              clear m5 m6 m7 mw HWd HSd HBd
              generalize w2.drewN nq = w3 at HWe HSe HBe ⊢
              have m1 := HSe.out.cell (i := 1) (v := .int .u32 rb) rfl
              have m2 := HSe.out.cell (i := 2) (v := .int .u32 rc) rfl
              go_wp2_with fail
              go_quiet ((go_at_call 177; first | exact Calls.quiet_of_same (rot_calls _ 2 (by omega) (by omega) _ (by decide) _) | exact Calls.quiet_of_same (rot_calls _ 13 (by omega) (by omega) _ (by decide) _) | exact Calls.quiet_of_same (rot_calls _ 22 (by omega) (by omega) _ (by decide) _)))
              have HWf : Aside0 (LA (w3.drewN nq) w.heap.size 206 (fillL .u32 64 (wList blk 64))) := ⟨HWe.out.drewN nq⟩
              have HSf : Aside0 (LA (w3.drewN nq) gs 182 ((S8.mk ra rb rc rd' re rf rg rh).list.map (Value.int .u32))) := ⟨HSe.out.drewN nq⟩
              have HBf : Aside0 (Below w.heap.size w (w3.drewN nq)) := ⟨pw_below_drewN HBe.out nq⟩
              clear m1 m2 HWe HSe HBe
              generalize w3.drewN nq = w4 at HWf HSf HBf ⊢
              have m0 := HSf.out.cell (i := 0) (v := .int .u32 ra) rfl
              have m1 := HSf.out.cell (i := 1) (v := .int .u32 rb) rfl
              have m2 := HSf.out.cell (i := 2) (v := .int .u32 rc) rfl
              have m3 := HSf.out.cell (i := 3) (v := .int .u32 rd') rfl
              have m4 := HSf.out.cell (i := 4) (v := .int .u32 re) rfl
              have m5 := HSf.out.cell (i := 5) (v := .int .u32 rf) rfl
              have m6 := HSf.out.cell (i := 6) (v := .int .u32 rg) rfl
              have m7 := HSf.out.cell (i := 7) (v := .int .u32 rh) rfl
              have z0 := HSf.out.free 0
              have z1 := HSf.out.free 1
              have z2 := HSf.out.free 2
              have z3 := HSf.out.free 3
              have z4 := HSf.out.free 4
              have z5 := HSf.out.free 5
              have z6 := HSf.out.free 6
              have z7 := HSf.out.free 7
              go_wp2_with fail
              refine ⟨⟨n + 1, by omega, by simp, ⟨HWf.out.other8 hgs2.symm _ _ _ _ _ _ _ _⟩, ⟨?_⟩, ⟨below8 HBf.out hgs1 _ _ _ _ _ _ _ _⟩⟩, by simp [intOf]; omega⟩
              rw [HNX.out]
              exact HSf.out.set8 _ _ _ _ _ _ _ _
            · have hn64 : n = 64 := by omega
              have ht : decide ((n : Int) < 64) = false := decide_eq_false (by omega)
              have HS64 : Aside0 (LA wr gs 182 ((rounds8 roundK (wList blk 64) 64 (S8.mk sa sb sc sd se sf sg sh)).list.map (Value.int .u32))) := ⟨by have e := HS.out; rw [hn64] at e; exact e⟩
              clear hn64 HS
              have HHr : Aside0 (LA wr b 185 ((S8.mk sa sb sc sd se sf sg sh).list.map (Value.int .u32) ++ blk.map (Value.int .u8) ++ [Value.int .i64 fill, Value.int .u64 size])) := ⟨(HB.out.block b hbl).trans HH.out.heap⟩
              have HK0 : Aside0 (w.grownBy wr (some b)) := ⟨grown_of_below HB.out _⟩
              have hgsb : b ≠ gs := by omega
              have HM0 : Aside0 (LA wr b 185 (mixL (S8.mk sa sb sc sd se sf sg sh) (rounds8 roundK (wList blk 64) 64 (S8.mk sa sb sc sd se sf sg sh)) 0 blk fill size)) := HHr
              obtain ⟨rr, hrr⟩ : ∃ rr, rr = rounds8 roundK (wList blk 64) 64 (S8.mk sa sb sc sd se sf sg sh) := ⟨_, rfl⟩
              rw [← hrr] at HM0 HS64
              have HRR := Aside0.mk hrr
              clear hrr HHr HW
              obtain ⟨ss, hss⟩ : ∃ ss, ss = S8.mk sa sb sc sd se sf sg sh := ⟨_, rfl⟩
              rw [← hss] at HM0 HRR
              have HSS := Aside0.mk hss
              clear hss
              go_wp2_with fail
              go_loopw [15, 177] (fun v15 v177 wq => ∃ m : Nat, m ≤ 8 ∧ v177 = .int .i64 m ∧ Aside0 (LA wq b 185 (mixL ss rr m blk fill size)) ∧ Aside0 (LA wq gs 182 (rr.list.map (Value.int .u32))) ∧ Aside0 (w.grownBy wq (some b))) (fun _ v177 _ => 8 - (intOf v177).toNat)
              case atStart => exact ⟨0, by omega, rfl, HM0, HS64, HK0⟩
              case round =>
                clear HM0 HS64 HK0 HB hz
                obtain ⟨m, hm, rfl, HM, HS, HK⟩ := hrel
                by_cases hlt : m < 8
                · have ht : decide ((m : Int) < 8) = true := decide_eq_true (by omega)
                  have m8 : (m : Int) < 8 := by omega
                  have x1 := HM.out.cell (mixL_get ss rr m blk fill size hlt)
                  have x2 := HS.out.cell (list8_get rr m hlt)
                  have HNX := Aside0.mk (mixL_set ss rr m blk fill size hlt)
                  generalize ss.list.getD m 0 = xs at x1 HNX
                  generalize rr.list.getD m 0 = xr at x2 HNX
                  go_wp2_with fail
                  go_still_tail 13, (by kernel_rfl)
                  change wpList _ _ _ _ _ wr.drew
                  have HMd : Aside0 (LA wr.drew b 185 (mixL ss rr m blk fill size)) := ⟨HM.out.drew⟩
                  have HSd : Aside0 (LA wr.drew gs 182 (rr.list.map (Value.int .u32))) := ⟨HS.out.drew⟩
                  have HKd : Aside0 (w.grownBy wr.drew (some b)) := ⟨grownBy_drew HK.out⟩
                  have x1' : wr.drew.cell? ⟨b, m, none⟩ = some (.int .u32 xs) := x1
                  clear x1 x2 HM HS HK
                  generalize wr.drew = wd at HMd HSd HKd x1' ⊢
                  have s2 := HMd.out.free m
                  go_wp2_with fail
                  refine ⟨⟨m + 1, by omega, by simp, ⟨?_⟩, ⟨HSd.out.other _ (by simpa using hgsb) _⟩, ⟨grownBy_set HKd.out m _⟩⟩, by simp [intOf]; omega⟩
                  have e := HMd.out.set m (.int .u32 ((xs + xr) % 4294967296))
                  rw [HNX.out] at e
                  exact e
                · have hm8 : m = 8 := by omega
                  have ht : decide ((m : Int) < 8) = false := decide_eq_false (by omega)
                  have HM8 : Aside0 (LA wr b 185 (mixL ss rr 8 blk fill size)) := ⟨by have e := HM.out; rw [hm8] at e; exact e⟩
                  clear hm8 HM
                  go_wp2_with fail
                  go_end0
                  refine ⟨rfl, ⟨HH.out.blk64, HH.out.bytes, ?_⟩, HK.out⟩
                  have e := HM8.out
                  unfold compress8
                  rw [HRR.out, HSS.out] at e
                  exact e
end Go.Proofs.YtfonhiakelmhhaaDoor.P
end
section
namespace Go.Proofs.YtfonhiakelmhhaaDoor.P
open Go.RowKit Go.Proofs.YtfonhiakelmhhaaDoorW.PrintWords
set_option linter.unusedVariables false

def hL (st : S8) (blk : List Int) (fill size : Int) : List Value := st.list.map (Value.int .u32) ++ blk.map (Value.int .u8) ++ [Value.int .i64 fill, Value.int .u64 size]
theorem hL_length (st : S8) (blk : List Int) (fill size : Int) (h : blk.length = 64) : (hL st blk fill size).length = 74 := by simp [hL, S8.list, h]
theorem hL_split (st : S8) (blk : List Int) (fill size : Int) : hL st blk fill size = (st.list.map (Value.int .u32) ++ blk.map (Value.int .u8)) ++ [Value.int .i64 fill, Value.int .u64 size] := rfl
theorem hL_pre (st : S8) (blk : List Int) (h : blk.length = 64) : (st.list.map (Value.int .u32) ++ blk.map (Value.int .u8)).length = 72 := by simp [S8.list, h]
theorem hL_fill (st : S8) (blk : List Int) (fill size : Int) (h : blk.length = 64) : (hL st blk fill size)[72]? = some (.int .i64 fill) := by
  rw [hL_split, List.getElem?_append_right (by rw [hL_pre st blk h]; exact Nat.le_refl _), hL_pre st blk h]; rfl
theorem hL_size (st : S8) (blk : List Int) (fill size : Int) (h : blk.length = 64) : (hL st blk fill size)[73]? = some (.int .u64 size) := by
  rw [hL_split, List.getElem?_append_right (by rw [hL_pre st blk h]; omega), hL_pre st blk h]; rfl
theorem hL_setFill (st : S8) (blk : List Int) (fill size x : Int) (h : blk.length = 64) : (hL st blk fill size).set 72 (.int .i64 x) = hL st blk x size := by
  rw [hL_split, List.set_append_right _ _ (by rw [hL_pre st blk h]; exact Nat.le_refl _), hL_pre st blk h]; rfl
theorem hL_setSize (st : S8) (blk : List Int) (fill size x : Int) (h : blk.length = 64) : (hL st blk fill size).set 73 (.int .u64 x) = hL st blk fill x := by
  rw [hL_split, List.set_append_right _ _ (by rw [hL_pre st blk h]; omega), hL_pre st blk h]; rfl
theorem hL_copy (st : S8) (blk c : List Int) (fill size : Int) (f : Nat) (h : blk.length = 64) (hf : f + c.length ≤ 64) :
    (hL st blk fill size).take (8 + f) ++ c.map (Value.int .u8) ++ (hL st blk fill size).drop (8 + f + c.length) = hL st (blk.take f ++ c ++ blk.drop (f + c.length)) fill size := by
  have e8 : (st.list.map (Value.int .u32)).length = 8 := by simp [S8.list]
  have e64 : (blk.map (Value.int .u8)).length = 64 := by simp [h]
  have t1 : (hL st blk fill size).take (8 + f) = st.list.map (Value.int .u32) ++ (blk.map (Value.int .u8)).take f := by
    unfold hL
    rw [List.append_assoc, ← e8, List.take_length_add_append, List.take_append_of_le_length (by omega)]
  have t2 : (hL st blk fill size).drop (8 + f + c.length) = (blk.map (Value.int .u8)).drop (f + c.length) ++ [Value.int .i64 fill, Value.int .u64 size] := by
    unfold hL
    rw [List.append_assoc, ← e8, Nat.add_assoc, List.drop_length_add_append, List.drop_append_of_le_length (by omega)]
  rw [t1, t2]
  unfold hL
  simp [List.map_take, List.map_drop]
theorem hashAt_LA {w : World} {b : Nat} {st : S8} {blk : List Int} {fill size : Int} (h : HashAt w b st blk fill size) : LA w b 185 (hL st blk fill size) := h.heap

def iv8 : S8 := ⟨1779033703, 3144134277, 1013904242, 2773480762, 1359893119, 2600822924, 528734635, 1541459225⟩
def stN (m : List Int) : Nat → S8
  | 0 => iv8
  | n + 1 => compress8 roundK (stN m n) ((m.drop (64 * n)).take 64)
def stOf (m : List Int) : S8 := stN m (m.length / 64)
theorem stN_append (m c : List Int) (n : Nat) (h : 64 * n ≤ m.length) : stN (m ++ c) n = stN m n := by
  induction n with
  | zero => rfl
  | succ n ih =>
    simp only [stN]
    rw [ih (by omega)]
    congr 1
    rw [List.drop_append_of_le_length (by omega), List.take_append_of_le_length (by rw [List.length_drop]; omega)]

def HashIs (w : World) (b : Nat) (m : List Int) (z : Int) : Prop :=
  ∃ blk, HashAt w b (stOf m) blk ((m.length % 64 : Nat) : Int) z ∧ blk.take (m.length % 64) = m.drop (64 * (m.length / 64))
theorem HashIs.lt {w : World} {b : Nat} {m : List Int} {z : Int} (h : HashIs w b m z) : b < w.heap.size := by
  obtain ⟨blk, h1, _⟩ := h
  exact (hashAt_LA h1).lt
theorem HashIs.keep {w w' : World} {b : Nat} {m : List Int} {z : Int} (h : HashIs w b m z) (hk : w'.heap[b]? = w.heap[b]?) : HashIs w' b m z := by
  obtain ⟨blk, h1, h2⟩ := h
  exact ⟨blk, ⟨h1.blk64, h1.bytes, hk.trans h1.heap⟩, h2⟩
theorem glob_ne {w : World} {b : Nat} {m : List Int} {z : Int} (h : HashIs w b m z) (hG : Glob w) : NotG b := by
  obtain ⟨blk, h1, _⟩ := h
  rintro rfl
  have e1 := h1.byte 0 (by omega)
  have e2 := hG.2 8 (by omega)
  rw [show 8 + 0 = 8 from rfl] at e1
  rw [e1] at e2
  cases e2
theorem Glob.of_grown {w w' : World} {b : Nat} (h : Glob w) (hk : w.grownBy w' (some b)) (hb : NotG b) : Glob w' := by
  obtain ⟨h1, h2⟩ := h
  have hs := hk.size
  have c : ∀ g o, g < w.heap.size → g ≠ b → w'.cell? ⟨g, o, none⟩ = w.cell? ⟨g, o, none⟩ := fun g o hg hne => World.cell?_of_block (hk.block g hg (fun e => hne (by injection e)))
  refine ⟨by omega, fun i hi => ?_⟩
  rw [c _ _ h1 (Ne.symm hb)]; exact h2 i hi
theorem Bytes.append {l k : List Int} (h : Bytes l) (h' : Bytes k) : Bytes (l ++ k) := by
  intro x hx
  rcases List.mem_append.1 hx with h1 | h1
  · exact h x h1
  · exact h' x h1
theorem Bytes.take {l : List Int} (h : Bytes l) (n : Nat) : Bytes (l.take n) := fun x hx => h x (List.mem_of_mem_take hx)
theorem Bytes.drop {l : List Int} (h : Bytes l) (n : Nat) : Bytes (l.drop n) := fun x hx => h x (List.mem_of_mem_drop hx)
theorem bytes_bytesOf (s : ByteArray) : Bytes (bytesOf s) := by
  intro x hx
  unfold bytesOf at hx
  obtain ⟨u, _, rfl⟩ := List.mem_map.1 hx
  have := u.toNat_lt
  omega
theorem bytesOf_drop (s : ByteArray) (n : Nat) : bytesOf (s.extract n s.size) = (bytesOf s).drop n := by
  unfold bytesOf
  rw [ByteArray.data_extract]
  simp only [Array.toList_extract, List.extract, ← List.map_drop]
  congr 1
  rw [List.take_of_length_le]
  simp
theorem chunk_part (m c blk : List Int) (f : Nat) (hf : f = m.length % 64) (hb : blk.length = 64) (hp : blk.take f = m.drop (64 * (m.length / 64))) (hc : f + c.length < 64) :
    stOf (m ++ c) = stOf m ∧ (m ++ c).length % 64 = f + c.length ∧ (blk.take f ++ c ++ blk.drop (f + c.length)).take (f + c.length) = (m ++ c).drop (64 * ((m ++ c).length / 64)) := by
  subst hf
  have e1 : (m ++ c).length / 64 = m.length / 64 := by rw [List.length_append]; omega
  refine ⟨?_, by rw [List.length_append]; omega, ?_⟩
  · unfold stOf
    rw [e1, stN_append m c _ (by omega)]
  · rw [e1, List.drop_append_of_le_length (by omega), ← hp]
    have hl : (blk.take (m.length % 64) ++ c).length = m.length % 64 + c.length := by rw [List.length_append, List.length_take]; omega
    rw [← hl]
    exact List.take_left
theorem chunk_full (m c blk : List Int) (f : Nat) (hf : f = m.length % 64) (hb : blk.length = 64) (hp : blk.take f = m.drop (64 * (m.length / 64))) (hc : f + c.length = 64) :
    stOf (m ++ c) = compress8 roundK (stOf m) (blk.take f ++ c ++ blk.drop (f + c.length)) ∧ (m ++ c).length % 64 = 0 ∧ (m ++ c).drop (64 * ((m ++ c).length / 64)) = [] := by
  subst hf
  have e1 : (m ++ c).length / 64 = m.length / 64 + 1 := by rw [List.length_append]; omega
  have e2 : (m ++ c).length = 64 * ((m ++ c).length / 64) := by rw [e1, List.length_append]; omega
  refine ⟨?_, by omega, List.drop_eq_nil_of_le (by omega)⟩
  unfold stOf
  rw [e1]
  simp only [stN]
  rw [stN_append m c _ (by omega)]
  congr 1
  rw [List.drop_append_of_le_length (by omega), ← hp, hc, show List.drop 64 blk = [] from List.drop_eq_nil_of_le (by omega), List.append_nil]
  refine List.take_of_length_le ?_
  rw [List.length_append, List.length_take]; omega
end Go.Proofs.YtfonhiakelmhhaaDoor.P
end
section
namespace Go.Proofs.YtfonhiakelmhhaaDoor.P
open Go.RowKit Go.Proofs.YtfonhiakelmhhaaDoorW.PrintWords
set_option linter.unusedVariables false
section
variable {P : Program} {ops : Array Oper} {rest : List Oper} {op : Oper} {a : Act} {Q : Exit → Act → World → Prop}
theorem run_copy_str (w : World) (g o dLen dCap : Nat) (t dT sT ty elem : TypeId) (L : List Value) (s : ByteArray) (h : LA w g t L) (hd : P.underlying dT = some (.slice elem)) (hs : (P.info? elem).map (·.size) = some 1)
    (hl : o + dLen ≤ L.length) :
    ∃ w', (Builtin.copy_ #[dT, sT] ty #[.slice (some ⟨g, o, none⟩) dLen dCap, .string s]).run P w = .ok (.int .i64 ((Nat.min s.size dLen : Nat) : Int)) w' ∧
      LA w' g t (L.take o ++ ((bytesOf s).take (Nat.min s.size dLen)).map (Value.int .u8) ++ L.drop (o + Nat.min s.size dLen)) ∧ w.grownBy w' (some g) := by
  have hn : (((bytesOf s).take (Nat.min s.size dLen)).map (Value.int .u8)).length = Nat.min s.size dLen := by
    rw [List.length_map, List.length_take, bytesOf_length]
    exact Nat.min_eq_left (Nat.min_le_left _ _)
  have hle : Nat.min s.size dLen ≤ dLen := Nat.min_le_right _ _
  have hst := run_storeCells_at P g o t (((bytesOf s).take (Nat.min s.size dLen)).map (Value.int .u8)) 0 L.toArray w h (by simp only [List.size_toArray]; omega) (by
    intro v hv
    obtain ⟨x, _, rfl⟩ := List.mem_map.1 hv
    rfl)
  rw [hn, Nat.add_zero] at hst
  obtain ⟨i, hi, hsz⟩ := Option.map_eq_some_iff.1 hs
  refine ⟨w.setRow g (L.take o ++ ((bytesOf s).take (Nat.min s.size dLen)).map (Value.int .u8) ++ L.drop (o + Nat.min s.size dLen)).toArray, ?_, setRow_heap w g _ _ t _ h, ⟨rfl, rfl, rfl, by simp [World.setRow], fun k _ hk => setRow_other w g k _ (fun e => hk (by rw [e]))⟩⟩
  have he : List.take (s.size.min dLen) (List.map (fun b => Value.int IntKind.u8 (b.toNat : Int)) s.data.toList) = ((bytesOf s).take (Nat.min s.size dLen)).map (Value.int .u8) := by
    unfold bytesOf
    rw [List.map_take, List.map_map]
    rfl
  simp [Builtin.copy_, Builtin.lenOf, Builtin.firstCells, run_underlying hd, sizeOf, typeInfo, goInt, hi]
  rw [he, hst]
  simp
theorem wpList_copy_str (w : World) (hgd : op.guard = none) (d x : Operand) (dT sT : TypeId) (ho : op.op = .call { callee := .builtin .copy, args := #[d, x], argTypes := #[dT, sT] })
    (g o dLen dCap : Nat) (t elem : TypeId) (L : List Value) (s : ByteArray) (hdv : a.eval d = .slice (some ⟨g, o, none⟩) dLen dCap) (hxv : a.eval x = .string s)
    (h : LA w g t L) (hd : P.underlying dT = some (.slice elem)) (hs : (P.info? elem).map (·.size) = some 1) (hl : o + dLen ≤ L.length)
    (k : ∀ w', LA w' g t (L.take o ++ ((bytesOf s).take (Nat.min s.size dLen)).map (Value.int .u8) ++ L.drop (o + Nat.min s.size dLen)) → w.grownBy w' (some g) →
      wpList P ops Q rest (a.put op.dst (.int .i64 ((Nat.min s.size dLen : Nat) : Int))) w') : wpList P ops Q (op :: rest) a w := by
  refine wpList_plain hgd fun K hK => ?_
  obtain ⟨w', hr, h2, h3⟩ := run_copy_str (P := P) w g o dLen dCap t dT sT op.type elem L s h hd hs hl
  unfold Oper.wp execOp
  simp only [ho, resolve, invoke, builtin, Sem.run_bind, Sem.run_pure, Result.andThen_ok, List.map_toArray, List.map_cons, List.map_nil, hdv, hxv, hr]
  exact hK _ _ (k w' h2 h3)
end
end Go.Proofs.YtfonhiakelmhhaaDoor.P
end
section
namespace Go.Proofs.YtfonhiakelmhhaaDoor.P
open Go.RowKit Go.Proofs.YtfonhiakelmhhaaDoorW.PrintWords Go.Proofs.YtfonhiakelmhhaaDoorW.PrintLast Go.Proofs.YtfonhiakelmhhaaDoorW.PrintMore
set_option linter.unusedVariables false
set_option linter.unusedSimpArgs false

theorem info5size : (Tryd.prog.info? 5).map (·.size) = some 1 := by kernel_rfl
set_option maxHeartbeats 16000000 in
set_option maxRecDepth 100000 in
theorem take_calls (b : Nat) (m : List Int) (s : ByteArray) (w : World) (h : HashIs w b m m.length) (hG : Glob w) (hlen : m.length + s.size ≤ 1152921504606846976) :
    Calls Tryd.prog 155 #[.pointer (some ⟨b, 0, none⟩), .string s] w fun e w' => e = .returned (.tuple #[]) ∧ HashIs w' b (m ++ bytesOf s) ((m ++ bytesOf s).length) ∧ w.grownBy w' (some b) := by
  have hbl := h.lt
  have HG := Aside0.mk hG
  have hne := glob_ne h hG
  have HNE := Aside0.mk hne
  clear hne
  have hzt : (m ++ bytesOf s).length = m.length + s.size := by rw [List.length_append, bytesOf_length]
  obtain ⟨blk, hA, hp⟩ := h
  have hL0 := hashAt_LA hA
  have q73 := hL0.cell (hL_size _ _ _ _ hA.blk64)
  have f73 := hL0.free 73
  have hsz : IntKind.u64.wrap ((m.length : Int) + IntKind.u64.wrap (s.size : Int)) = ((m.length : Int) + (s.size : Int)) := by rw [IntKind.wrap_u64, IntKind.wrap_u64]; omega
  have hL1 := hL0.set 73 (.int .u64 ((m.length : Int) + (s.size : Int)))
  rw [hL_setSize _ _ _ _ _ hA.blk64] at hL1
  have HI0 : Aside0 (HashIs (w.setCell ⟨b, 73, none⟩ (.int .u64 ((m.length : Int) + (s.size : Int)))) b m ((m.length : Int) + (s.size : Int))) := ⟨blk, ⟨hA.blk64, hA.bytes, hL1⟩, hp⟩
  have HK0 : Aside0 (w.grownBy (w.setCell ⟨b, 73, none⟩ (.int .u64 ((m.length : Int) + (s.size : Int)))) (some b)) := ⟨grownBy_set (grownBy_refl w _) 73 _⟩
  clear hA hp hL0 hL1 hG
  go_enter Tryd.func155, Tryd.ntmps155
  go_wp2_with fail
  generalize (w.setCell ⟨b, 73, none⟩ (.int .u64 ((m.length : Int) + (s.size : Int)))) = w0 at HI0 HK0 ⊢
  clear q73 f73 hsz
  go_loopw [1, 4] (fun v1 v4 wr => ∃ (s' : ByteArray) (m' : List Int), v1 = .string s' ∧ Aside0 (m' ++ bytesOf s' = m ++ bytesOf s) ∧ Aside0 (HashIs wr b m' ((m.length : Int) + (s.size : Int))) ∧ Aside0 (w.grownBy wr (some b))) (fun v1 _ _ => match v1 with | .string x => x.size | _ => 0)
  case atStart => exact ⟨s, m, rfl, ⟨rfl⟩, HI0, HK0⟩
  case round =>
    clear HI0 HK0
    obtain ⟨s', m', rfl, HE, HI, HK⟩ := hrel
    have hlen' : m'.length + s'.size = m.length + s.size := by
      have := congrArg List.length HE.out
      rw [List.length_append, List.length_append, bytesOf_length, bytesOf_length] at this
      exact this
    have HLE := Aside0.mk hlen'
    clear hlen'
    by_cases hs0 : 0 < s'.size
    · have ht : decide ((0 : Int) < (s'.size : Int)) = true := decide_eq_true (by omega)
      obtain ⟨blk, hA, hp⟩ := HI.out
      have HA := Aside0.mk hA
      have HP := Aside0.mk hp
      have hf64 : m'.length % 64 < 64 := Nat.mod_lt _ (by omega)
      obtain ⟨f, hf⟩ : ∃ f, f = m'.length % 64 := ⟨_, rfl⟩
      rw [← hf] at hf64
      have HF := Aside0.mk hf
      have q72 : wr.cell? ⟨b, 72, none⟩ = some (.int .i64 (f : Int)) := by rw [hf]; exact (hashAt_LA hA).cell (hL_fill _ _ _ _ hA.blk64)
      clear hA hp hf
      have hsl : ∀ W, (Instr.sliceAt 183 (.pointer (some ⟨b, 8, none⟩)) (some (.int .i64 (f : Int))) none none).run Tryd.prog W = .ok (.slice (some ⟨b, 8 + f, none⟩) (64 - f) (64 - f)) W := fun W =>
        slice_arr 183 5 64 b 8 f hf64 Tryd.underlying183 size5 W
      go_wp2_with fail
      go_still_tail 9, (by kernel_rfl)
      change wpList _ _ _ _ _ wr.drew
      have HLd : Aside0 (LA wr.drew b 185 (hL (stOf m') blk (f : Int) ((m.length : Int) + (s.size : Int)))) := ⟨by have e := hashAt_LA HA.out; rw [← HF.out] at e; exact e⟩
      have HKd : Aside0 (w.grownBy wr.drew (some b)) := ⟨grownBy_drew HK.out⟩
      clear HK HI q72
      generalize wr.drew = wd at HLd HKd ⊢
      have hblk : blk.length = 64 := HA.out.blk64
      have HBL := Aside0.mk hblk
      clear hblk
      have hnle : Nat.min s'.size (64 - f) ≤ s'.size := Nat.min_le_left _ _
      have hnle2 : Nat.min s'.size (64 - f) ≤ 64 - f := Nat.min_le_right _ _
      have hn0 : 0 < Nat.min s'.size (64 - f) := by
        show 0 < min s'.size (64 - f)
        omega
      have hLc : 8 + f + (64 - f) ≤ (hL (stOf m') blk (f : Int) ((m.length : Int) + (s.size : Int))).length := by rw [hL_length _ _ _ _ HBL.out]; omega
      have HLC := Aside0.mk hLc
      clear hLc
      obtain ⟨n, hn⟩ : ∃ n, Nat.min s'.size (64 - f) = n := ⟨_, rfl⟩
      rw [hn] at hnle hnle2 hn0
      have HN := Aside0.mk hn
      clear hn
      have hcl : ((bytesOf s').take n).length = n := by rw [List.length_take, bytesOf_length]; omega
      have HCL := Aside0.mk hcl
      clear hcl
      have HCP : Aside0 (∀ L, L = hL (stOf m') blk (f : Int) ((m.length : Int) + (s.size : Int)) → L.take (8 + f) ++ ((bytesOf s').take n).map (Value.int .u8) ++ L.drop (8 + f + n) = hL (stOf m') (blk.take f ++ (bytesOf s').take n ++ blk.drop (f + n)) (f : Int) ((m.length : Int) + (s.size : Int))) := ⟨by
        rintro L rfl
        have e := hL_copy (stOf m') blk ((bytesOf s').take n) (f : Int) ((m.length : Int) + (s.size : Int)) f HBL.out (by rw [HCL.out]; omega)
        rw [HCL.out] at e
        exact e⟩
      have hb1 : (blk.take f ++ (bytesOf s').take n ++ blk.drop (f + n)).length = 64 := by
        have e1 := HBL.out
        have e2 := HCL.out
        rw [List.length_append, List.length_append, e2, List.length_take, List.length_drop]; omega
      have HB1 := Aside0.mk hb1
      clear hb1
      have hby1 : Bytes (blk.take f ++ (bytesOf s').take n ++ blk.drop (f + n)) := ((HA.out.bytes.take f).append ((bytes_bytesOf s').take n)).append (HA.out.bytes.drop (f + n))
      have HBY := Aside0.mk hby1
      clear hby1
      have hfn : (f : Int) + (n : Int) ≤ 64 := by omega
      by_cases hfull : f + n = 64
      · have ht64 : (((f : Int) + (n : Int)) == 64) = true := by rw [beq_iff_eq]; omega
        have HFU := Aside0.mk hfull
        clear hfull
        go_wp2_with (first
          | (with_reducible refine wpList_copy_str _ rfl (.tmp 25) (.tmp 26) 40 9 rfl b (8 + f) (64 - f) (64 - f) 185 5 _ s' rfl rfl HLd.out Tryd.underlying40 info5size HLC.out ?_
             intro w1 hL1 hK1
             rw [HN.out] at hL1 ⊢
             rw [HCP.out _ rfl] at hL1
             have HL1 := Aside0.mk hL1
             have HK1 := Aside0.mk (grownBy_trans HKd.out hK1)
             have q72 := HL1.out.cell (hL_fill _ _ _ _ HB1.out)
             have z72 := HL1.out.free 72
             clear hL1 hK1 HLd HKd))
        have HL2 := Aside0.mk (HL1.out.set 72 (.int .i64 ((f : Int) + (n : Int))))
        have HK2 := Aside0.mk (grownBy_set HK1.out 72 (.int .i64 ((f : Int) + (n : Int))))
        rw [hL_setFill _ _ _ _ _ HB1.out] at HL2
        have HG2 : Aside0 (Glob (w1.setCell ⟨b, 72, none⟩ (.int .i64 ((f : Int) + (n : Int))))) := ⟨HG.out.of_grown HK2.out HNE.out⟩
        clear q72 z72 HL1 HK1
        refine (turn_calls b (stOf m') _ _ _ _ ⟨HB1.out, HBY.out, HL2.out⟩ HG2.out).mono ?_
        rintro e w3 ⟨rfl, hA3, hK3⟩
        have HA3 := Aside0.mk hA3
        have HK3 := Aside0.mk (grownBy_trans HK2.out hK3)
        have HL3 := Aside0.mk (hashAt_LA hA3)
        have q72 := HL3.out.cell (hL_fill _ _ _ _ HB1.out)
        have z72 := HL3.out.free 72
        clear hA3 hK3 HL2 HK2 HG2
        go_wp2_with fail
        refine ⟨⟨s'.extract n s'.size, m' ++ (bytesOf s').take n, rfl, ⟨?_⟩, ⟨?_⟩, ⟨grownBy_set HK3.out 72 _⟩⟩, ?_⟩
        · rw [bytesOf_drop, List.append_assoc, List.take_append_drop]; exact HE.out
        · obtain ⟨c1, c2, c3⟩ := chunk_full m' ((bytesOf s').take n) blk f HF.out HBL.out (by have e := HP.out; rw [← HF.out] at e; exact e) (by rw [HCL.out]; exact HFU.out)
          rw [HCL.out] at c1
          have e := HL3.out.set 72 (.int .i64 0)
          rw [hL_setFill _ _ _ _ _ HB1.out, ← c1] at e
          refine ⟨_, ⟨HB1.out, HBY.out, ?_⟩, by rw [c2, c3]; rfl⟩
          rw [c2]
          exact e
        · show (s'.extract n s'.size).size < s'.size
          rw [ByteArray.size_extract]; omega
      · have ht64 : (((f : Int) + (n : Int)) == 64) = false := by rw [beq_eq_false_iff_ne]; omega
        have HFU := Aside0.mk (show f + n < 64 by omega)
        clear hfull
        go_wp2_with (first
          | (with_reducible refine wpList_copy_str _ rfl (.tmp 25) (.tmp 26) 40 9 rfl b (8 + f) (64 - f) (64 - f) 185 5 _ s' rfl rfl HLd.out Tryd.underlying40 info5size HLC.out ?_
             intro w1 hL1 hK1
             rw [HN.out] at hL1 ⊢
             rw [HCP.out _ rfl] at hL1
             have HL1 := Aside0.mk hL1
             have HK1 := Aside0.mk (grownBy_trans HKd.out hK1)
             have q72 := HL1.out.cell (hL_fill _ _ _ _ HB1.out)
             have z72 := HL1.out.free 72
             clear hL1 hK1 HLd HKd))
        refine ⟨⟨s'.extract n s'.size, m' ++ (bytesOf s').take n, rfl, ⟨?_⟩, ⟨?_⟩, ⟨grownBy_set HK1.out 72 _⟩⟩, ?_⟩
        · rw [bytesOf_drop, List.append_assoc, List.take_append_drop]; exact HE.out
        · obtain ⟨c1, c2, c3⟩ := chunk_part m' ((bytesOf s').take n) blk f HF.out HBL.out (by have e := HP.out; rw [← HF.out] at e; exact e) (by rw [HCL.out]; exact HFU.out)
          rw [HCL.out] at c2 c3
          have e := HL1.out.set 72 (.int .i64 ((f : Int) + (n : Int)))
          rw [hL_setFill _ _ _ _ _ HB1.out, ← c1] at e
          refine ⟨_, ⟨HB1.out, HBY.out, ?_⟩, by rw [c2, ← c3]⟩
          rw [c2]
          exact e
        · show (s'.extract n s'.size).size < s'.size
          rw [ByteArray.size_extract]; omega
    · have ht : decide ((0 : Int) < (s'.size : Int)) = false := decide_eq_false (by omega)
      have HS0 := Aside0.mk (show s'.size = 0 by omega)
      go_wp2_with fail
      go_end0
      refine ⟨rfl, ?_, HK.out⟩
      have e1 : bytesOf s' = [] := List.eq_nil_of_length_eq_zero (by rw [bytesOf_length]; exact HS0.out)
      have e2 := HE.out
      rw [e1, List.append_nil] at e2
      rw [← e2, e2, hzt, ← e2]
      exact HI.out
end Go.Proofs.YtfonhiakelmhhaaDoor.P
end
section
namespace Go.Proofs
open Go.Shelf
def Tryd.lays170_ren : Go.Shelf.Ren := ⟨fun | 170 => 77 | n => n, fun | 70 => 112 | 3 => 3 | 0 => 0 | 72 => 114 | 37 => 40 | 5 => 5 | n => n, fun | n => n⟩
theorem Tryd.lays170 : Go.Proofs.Lays.n170 Tryd.prog Tryd.lays170_ren := {
  mixed := by kernel_rfl
  f170 := Tryd.func77.trans (congrArg some (by kernel_rfl))
  t0 := Tryd.underlying0
  a0 := Tryd.isAgg0
  z0 := Tryd.sizeOf0
  v0 := Tryd.zeroValue0
  t3 := Tryd.underlying3
  a3 := Tryd.isAgg3
  z3 := Tryd.sizeOf3
  v3 := Tryd.zeroValue3
  t37 := Tryd.underlying40
  a37 := Tryd.isAgg40
  z37 := Tryd.sizeOf40
  v37 := Tryd.zeroValue40
  t70 := Tryd.underlying112
  a70 := Tryd.isAgg112
  z70 := Tryd.sizeOf112
  v70 := Tryd.zeroValue112
  t72 := Tryd.underlying114
  a72 := Tryd.isAgg114
  z72 := Tryd.sizeOf114
  v72 := Tryd.zeroValue114 }
def Tryd.lays169_ren : Go.Shelf.Ren := ⟨fun | 169 => 79 | n => n, fun | 70 => 112 | 9 => 9 | 0 => 0 | 72 => 114 | 37 => 40 | 127 => 169 | 3 => 3 | 5 => 5 | n => n, fun | n => n⟩
theorem Tryd.lays169 : Go.Proofs.Lays.n169 Tryd.prog Tryd.lays169_ren := {
  mixed := by kernel_rfl
  f169 := Tryd.func79.trans (congrArg some (by kernel_rfl))
  t0 := Tryd.underlying0
  a0 := Tryd.isAgg0
  z0 := Tryd.sizeOf0
  v0 := Tryd.zeroValue0
  t3 := Tryd.underlying3
  a3 := Tryd.isAgg3
  z3 := Tryd.sizeOf3
  v3 := Tryd.zeroValue3
  t9 := Tryd.underlying9
  a9 := Tryd.isAgg9
  z9 := Tryd.sizeOf9
  v9 := Tryd.zeroValue9
  t37 := Tryd.underlying40
  a37 := Tryd.isAgg40
  z37 := Tryd.sizeOf40
  v37 := Tryd.zeroValue40
  t70 := Tryd.underlying112
  a70 := Tryd.isAgg112
  z70 := Tryd.sizeOf112
  v70 := Tryd.zeroValue112
  t72 := Tryd.underlying114
  a72 := Tryd.isAgg114
  z72 := Tryd.sizeOf114
  v72 := Tryd.zeroValue114
  t127 := Tryd.underlying169
  a127 := Tryd.isAgg169
  z127 := Tryd.sizeOf169
  v127 := Tryd.zeroValue169 }
theorem Tryd.Builder_Extra_169 : Builder.Extra Tryd.prog Tryd.lays169_ren := {
  sizeBuilder := by kernel_rfl
  liesBuilder := by kernel_rfl
  t5 := Tryd.underlying5
  a5 := Tryd.isAgg5
  z5 := Tryd.sizeOf5
  v5 := Tryd.zeroValue5
  infoByte := by kernel_rfl
  cellsByte := by kernel_rfl
  sizeByte := by kernel_rfl
  neB5 := by decide }
def Tryd.lays134_ren : Go.Shelf.Ren := ⟨fun | 134 => 137 | 129 => 160 | n => n, fun | 53 => 22 | 3 => 3 | 4 => 4 | 46 => 108 | 5 => 5 | 9 => 9 | n => n, fun | n => n⟩
theorem Tryd.lays134 : Go.Proofs.Lays.n134 Tryd.prog Tryd.lays134_ren := {
  mixed := by kernel_rfl
  f129 := Tryd.func160.trans (congrArg some (by kernel_rfl))
  f134 := Tryd.func137.trans (congrArg some (by kernel_rfl))
  t3 := Tryd.underlying3
  a3 := Tryd.isAgg3
  z3 := Tryd.sizeOf3
  v3 := Tryd.zeroValue3
  t4 := Tryd.underlying4
  a4 := Tryd.isAgg4
  z4 := Tryd.sizeOf4
  v4 := Tryd.zeroValue4
  t5 := Tryd.underlying5
  a5 := Tryd.isAgg5
  z5 := Tryd.sizeOf5
  v5 := Tryd.zeroValue5
  t9 := Tryd.underlying9
  a9 := Tryd.isAgg9
  z9 := Tryd.sizeOf9
  v9 := Tryd.zeroValue9
  t46 := Tryd.underlying108
  a46 := Tryd.isAgg108
  z46 := Tryd.sizeOf108
  v46 := Tryd.zeroValue108
  t53 := Tryd.underlying22
  a53 := Tryd.isAgg22
  z53 := Tryd.sizeOf22
  v53 := Tryd.zeroValue22 }
theorem Tryd.bits_LeadingZeros64 (x : Int) (w : World) (h0 : 0 ≤ x) (h1 : x ≤ 18446744073709551615) :
    Calls Tryd.prog 137 #[.int .u64 x] w fun e w' => e = .returned (.int .i64 (64 - (Lib.bitLen x.toNat : Int))) ∧ w' = w := Any.bits_LeadingZeros64 Tryd.lays134 x w h0 h1
open Go.RowKit in
theorem Tryd.Builder_Len_f (B b : Nat) (bs : List Value) (w : World) (h : Lib.IsBuilderF 114 5 B b bs w) :
    Calls Tryd.prog 77 #[.pointer (some ⟨b, 0, none⟩)] w fun e w' => e = .returned (.int .i64 bs.length) ∧ w' = w := Any.Builder_Len_f Tryd.lays170 B b bs w h
open Go.RowKit in
theorem Tryd.Builder_String_any_f (B b : Nat) (l : List UInt8) (w : World) (h : Lib.IsBuilderF 114 5 B b (Lib.byteCells l) w) (hBw : B ≤ w.heap.size) :
    Calls Tryd.prog 79 #[.pointer (some ⟨b, 0, none⟩)] w fun e w' => e = .returned (.string ⟨l.toArray⟩) ∧ (Lib.IsBuilderF 114 5 B b (Lib.byteCells l) w' ∧ Below B w w') := Any.Builder_String_any_f Tryd.lays169 Tryd.Builder_Extra_169 B b l w h hBw
def Tryd.lays105_ren : Go.Shelf.Ren := ⟨fun | 105 => 135 | 212 => 157 | 99 => 158 | 165 => 159 | 166 => 78 | 170 => 77 | 169 => 79 | 263 => 169 | 264 => 164 | 206 => 170 | 240 => 134 | 241 => 171 | 276 => 156 | 277 => 178 | n => n, fun | 9 => 9 | 3 => 3 | 4 => 4 | 20 => 20 | 0 => 0 | 46 => 108 | 109 => 193 | 5 => 5 | 72 => 114 | 76 => 118 | 51 => 103 | 146 => 202 | 53 => 22 | 148 => 122 | 70 => 112 | 37 => 40 | 75 => 117 | 127 => 169 | 164 => 191 | 80 => 120 | n => n, fun | n => n⟩
theorem Tryd.lays105 : Go.Proofs.Lays.n105 Tryd.prog Tryd.lays105_ren := {
  mixed := by kernel_rfl
  f99 := Tryd.func158.trans (congrArg some (by kernel_rfl))
  f105 := Tryd.func135.trans (congrArg some (by kernel_rfl))
  f165 := Tryd.func159.trans (congrArg some (by kernel_rfl))
  f166 := Tryd.func78.trans (congrArg some (by kernel_rfl))
  f169 := Tryd.func79.trans (congrArg some (by kernel_rfl))
  f170 := Tryd.func77.trans (congrArg some (by kernel_rfl))
  f206 := Tryd.func170.trans (congrArg some (by kernel_rfl))
  f212 := Tryd.func157.trans (congrArg some (by kernel_rfl))
  f240 := Tryd.func134.trans (congrArg some (by kernel_rfl))
  f241 := Tryd.func171.trans (congrArg some (by kernel_rfl))
  f263 := Tryd.func169.trans (congrArg some (by kernel_rfl))
  f264 := Tryd.func164.trans (congrArg some (by kernel_rfl))
  f276 := Tryd.func156.trans (congrArg some (by kernel_rfl))
  f277 := Tryd.func178.trans (congrArg some (by kernel_rfl))
  t0 := Tryd.underlying0
  a0 := Tryd.isAgg0
  z0 := Tryd.sizeOf0
  v0 := Tryd.zeroValue0
  t3 := Tryd.underlying3
  a3 := Tryd.isAgg3
  z3 := Tryd.sizeOf3
  v3 := Tryd.zeroValue3
  t4 := Tryd.underlying4
  a4 := Tryd.isAgg4
  z4 := Tryd.sizeOf4
  v4 := Tryd.zeroValue4
  t5 := Tryd.underlying5
  a5 := Tryd.isAgg5
  z5 := Tryd.sizeOf5
  v5 := Tryd.zeroValue5
  t9 := Tryd.underlying9
  a9 := Tryd.isAgg9
  z9 := Tryd.sizeOf9
  v9 := Tryd.zeroValue9
  t20 := Tryd.underlying20
  a20 := Tryd.isAgg20
  z20 := Tryd.sizeOf20
  v20 := Tryd.zeroValue20
  t37 := Tryd.underlying40
  a37 := Tryd.isAgg40
  z37 := Tryd.sizeOf40
  v37 := Tryd.zeroValue40
  t46 := Tryd.underlying108
  a46 := Tryd.isAgg108
  z46 := Tryd.sizeOf108
  v46 := Tryd.zeroValue108
  t51 := Tryd.underlying103
  a51 := Tryd.isAgg103
  z51 := Tryd.sizeOf103
  v51 := Tryd.zeroValue103
  t53 := Tryd.underlying22
  a53 := Tryd.isAgg22
  z53 := Tryd.sizeOf22
  v53 := Tryd.zeroValue22
  t70 := Tryd.underlying112
  a70 := Tryd.isAgg112
  z70 := Tryd.sizeOf112
  v70 := Tryd.zeroValue112
  t72 := Tryd.underlying114
  a72 := Tryd.isAgg114
  z72 := Tryd.sizeOf114
  v72 := Tryd.zeroValue114
  t75 := Tryd.underlying117
  a75 := Tryd.isAgg117
  z75 := Tryd.sizeOf117
  v75 := Tryd.zeroValue117
  t76 := Tryd.underlying118
  a76 := Tryd.isAgg118
  z76 := Tryd.sizeOf118
  v76 := Tryd.zeroValue118
  t109 := Tryd.underlying193
  a109 := Tryd.isAgg193
  z109 := Tryd.sizeOf193
  v109 := Tryd.zeroValue193
  t127 := Tryd.underlying169
  a127 := Tryd.isAgg169
  z127 := Tryd.sizeOf169
  v127 := Tryd.zeroValue169
  t146 := Tryd.underlying202
  a146 := Tryd.isAgg202
  z146 := Tryd.sizeOf202
  v146 := Tryd.zeroValue202
  t148 := Tryd.underlying122
  a148 := Tryd.isAgg122
  z148 := Tryd.sizeOf122
  v148 := Tryd.zeroValue122
  t164 := Tryd.underlying191
  a164 := Tryd.isAgg191
  z164 := Tryd.sizeOf191
  v164 := Tryd.zeroValue191 }
theorem Tryd.Builder_Extra_105 : Builder.Extra Tryd.prog Tryd.lays105_ren := {
  sizeBuilder := by kernel_rfl
  liesBuilder := by kernel_rfl
  t5 := Tryd.underlying5
  a5 := Tryd.isAgg5
  z5 := Tryd.sizeOf5
  v5 := Tryd.zeroValue5
  infoByte := by kernel_rfl
  cellsByte := by kernel_rfl
  sizeByte := by kernel_rfl
  neB5 := by decide }
open Go.RowKit Go.Lib in
theorem Tryd.strings_Repeat (s : ByteArray) (c : Nat) (w : World) (hc : c ≤ 9223372036854775807) (hlen : s.size * c ≤ 140737488355328) :
    Calls Tryd.prog 135 #[.string s, .int .i64 c] w fun e w' => e = .returned (.string ⟨(Lib.repeatL s.data.toList c).toArray⟩) ∧ Below w.heap.size w w' := Any.strings_Repeat Tryd.lays105 Tryd.Builder_Extra_105 s c w hc hlen

open Go.RowKit in
theorem Tryd.Builder_WriteString_f (B b : Nat) (bs : List Value) (s : ByteArray) (w : World) (h : Lib.IsBuilderF 114 5 B b bs w) (hlen : bs.length + s.size ≤ 140737488355328) (hBw : B ≤ w.heap.size) :
    Calls Tryd.prog 78 #[.pointer (some ⟨b, 0, none⟩), .string s] w fun e w' => e = .returned (.tuple #[.int .i64 s.size, .nilIface]) ∧ (Lib.BuilderAtF 114 5 B b (.pointer (some ⟨b, 0, none⟩)) (bs ++ Lib.strCells s) w' ∧ Below B w w') :=
  Any.Builder_WriteString_f { Tryd.lays105 with } Tryd.Builder_Extra_105 B b bs s w h hlen hBw
end Go.Proofs
end
section
namespace Go.Proofs.YtfonhiakelmhhaaDoor.P
open Go.RowKit Go.Proofs.YtfonhiakelmhhaaDoorW.PrintWords Go.Proofs.YtfonhiakelmhhaaDoorW.PrintLast Go.Proofs.YtfonhiakelmhhaaDoorW.PrintMore
set_option linter.unusedVariables false
set_option linter.unusedSimpArgs false

def StrRow (w : World) (B : Nat) (v : Value) (xs : List Int) : Prop :=
  ∃ g cap cur fr, v = .slice (some ⟨g, 0, none⟩) xs.length cap ∧ B ≤ g ∧ w.heap[g]? = some (.cells cur 5 fr) ∧ (fr = (0, 0) ∨ fr = (cap, cap + 1)) ∧ cur.size = cap ∧ xs.length ≤ cap ∧ cap ≤ 9223372036854775807 ∧ cur.toList.take xs.length = xs.map (Value.int .u8)

theorem StrRow.keep {w w' : World} {B : Nat} {v : Value} {xs : List Int} (h : StrRow w B v xs) (hb : Below w.heap.size w w') : StrRow w' B v xs := by
  obtain ⟨g, cap, cur, fr, h1, h2, h3, h4⟩ := h
  have hlt : g < w.heap.size := by
    rcases Nat.lt_or_ge g w.heap.size with h' | h'
    · exact h'
    · simp [Array.getElem?_eq_none h'] at h3
  exact ⟨g, cap, cur, fr, h1, h2, (hb.block g hlt).trans h3, h4⟩
theorem StrRow.alloc {w : World} {B : Nat} {v : Value} {xs : List Int} (h : StrRow w B v xs) (o : Obj) : StrRow (w.alloc o) B v xs := h.keep ((Below.refl _ _).alloc (Nat.le_refl _) _)

theorem StrRow.reads {w : World} {B : Nat} {v : Value} {xs : List Int} (h : StrRow w B v xs) : ∃ A c, v = .slice A xs.length c ∧ xs.length ≤ c ∧ Kd.C (Kd.int .u8) w A xs.length xs := by
  obtain ⟨g, cap, cur, fr, rfl, h2, h3, h4, h5, h6, h7, h8⟩ := h
  refine ⟨_, _, rfl, h6, rfl, by omega, fun _ => ⟨_, rfl, fun j p hj => ⟨[.int .u8 p], rfl, rfl, fun i u hi => ?_⟩⟩⟩
  have hjl : j < xs.length := by
    rcases Nat.lt_or_ge j xs.length with h' | h'
    · exact h'
    · simp [List.getElem?_eq_none h'] at hj
  have hi0 : i = 0 := by
    rcases i with _ | i
    · rfl
    · simp at hi
  subst hi0
  have hu : u = .int .u8 p := by simpa using hi.symm
  subst hu
  have hsz : (Kd.int .u8).sz = 1 := rfl
  rw [hsz, Nat.mul_one, Nat.add_zero]
  have hadd : (⟨g, 0, none⟩ : Addr).add j = ⟨g, j, none⟩ := by unfold Addr.add; split <;> simp_all
  rw [hadd]
  have hc : cur.toList[j]? = some (.int .u8 p) := by
    have e1 : (cur.toList.take xs.length)[j]? = cur.toList[j]? := by rw [List.getElem?_take]; simp [hjl]
    rw [← e1, h8, List.getElem?_map, hj]; rfl
  simp only [World.cell?, h3]
  simpa using hc

theorem strRow_bytes (P : Program) (w : World) (src dst : TypeId) (s : ByteArray) (hs : P.underlying src = some .string) (hd : P.underlying dst = some (.slice 5)) (he : P.underlying 5 = some (.int .u8)) (hsz : s.size ≤ 9223372036854775807) :
    ∃ v w', (convert src dst (.string s)).run P w = .ok v w' ∧ StrRow w' w.heap.size v (bytesOf s) ∧ Below w.heap.size w w' := by
  refine ⟨_, _, run_bytes_of_string w src dst 5 s hs hd he, ?_, ((Below.refl _ _).drew).alloc (Nat.le_refl _) _⟩
  have hge := grownCap_ge w s.size 0 5
  have hle := grownCap_le_maxLen w s.size 0 5 (by unfold maxLen; exact hsz)
  unfold maxLen at hle
  have hrs : (bytesRow s (grownCap w s.size 0 5)).size = grownCap w s.size 0 5 := by
    unfold bytesRow
    simp only [Array.size_append, Array.size_map, Array.size_replicate]
    have : s.data.size = s.size := rfl
    omega
  refine ⟨w.heap.size, grownCap w s.size 0 5, _, _, by rw [bytesOf_length], Nat.le_refl _, heap_alloc_new w.drew _, .inr (by rw [hrs]), hrs, by rw [bytesOf_length]; exact hge, hle, ?_⟩
  rw [bytesOf_length]
  unfold bytesRow bytesOf
  simp only [Array.toList_append, Array.toList_map]
  have hl : (List.map (fun b : UInt8 => Value.int IntKind.u8 ↑b.toNat) s.data.toList).length = s.size := by simp
  rw [← hl, List.take_left, List.map_map]
  rfl

section
variable {P : Program} {ops : Array Oper} {rest : List Oper} {o : Oper} {a : Act} {Q : Exit → Act → World → Prop}
theorem run_append_str (w : World) (t ty : TypeId) (i : TypeInfo) (ht : P.underlying t = some (.slice 5)) (hi : P.info? 5 = some i) (hz : i.zero = some (.int .u8 0)) (hsize : i.size = 1) (hby : i.bytes = 1)
    (B : Nat) (v : Value) (xs : List Int) (b : Int) (h : StrRow w B v xs) (hB : B ≤ w.heap.size)
    (h0 : Nat) (c : Nat) (hcell : w.cell? ⟨h0, 0, none⟩ = some (.int .u8 b)) (hl : xs.length + 1 ≤ 140737488355328) :
    ∃ v' w', (Builtin.append_ #[t, t] ty #[v, .slice (some ⟨h0, 0, none⟩) 1 c]).run P w = .ok v' w' ∧ StrRow w' B v' (xs ++ [b]) ∧ Below B w w' := by
  obtain ⟨g, cap, cur, fr, rfl, h2, h3, h4, h5, h6, h7, h8⟩ := h
  by_cases hroom : xs.length + 1 ≤ cap
  · have hf := run_firstCells_some (P := P) w i.size 1 ⟨h0, 0, none⟩ 1 c [.int .u8 b] (by rw [hsize]; rfl) (by
      intro j u hj
      rcases j with _ | j
      · obtain rfl : u = .int .u8 b := by simpa using hj.symm
        exact hcell
      · simp at hj)
    have hc : w.cell? ⟨g, xs.length, none⟩ = some (cur[xs.length]'(by omega)) := by
      simp only [World.cell?, h3]
      simp [Array.getElem?_eq_getElem (show xs.length < cur.size by omega)]
    have hfz : w.frozen? ⟨g, xs.length, none⟩ = false := by
      simp only [World.frozen?, h3]
      rcases h4 with rfl | rfl
      · simp
      · simp; omega
    refine ⟨.slice (some ⟨g, 0, none⟩) (xs.length + 1) cap, w.setCell ⟨g, xs.length, none⟩ (.int .u8 b), ?_, ?_, (Below.refl _ _).setCell (p := ⟨g, xs.length, none⟩) h2 _⟩
    · have hif : (if xs = [] then (⟨g, 0, none⟩ : Addr) else ⟨g, xs.length, none⟩) = ⟨g, xs.length, none⟩ := by split <;> simp_all
      rw [hsize] at hf
      simp [Builtin.append_, run_underlying ht, sizeOf, typeInfo, hi, Builtin.lenOf, hroom, hf, hsize, Addr.add]
      rw [hif]
      simp [storeCells, Addr.add, hc, hfz, go_sem]
    · refine ⟨g, cap, cur.setIfInBounds xs.length (.int .u8 b), fr, by simp, h2, ?_, h4, by simpa using h5, by simpa using hroom, h7, ?_⟩
      · simp only [World.setCell]
        rw [Array.getElem?_modify]
        simp [h3]
      · simp only [List.length_append, List.length_singleton, Array.toList_setIfInBounds, List.map_append, List.map_cons, List.map_nil]
        rw [← h8]
        apply List.ext_getElem?
        intro j
        simp only [List.getElem?_take, List.getElem?_append, List.getElem?_set, List.length_take, Array.length_toList]
        have hm : min xs.length cur.size = xs.length := by omega
        rw [hm]
        rcases Nat.lt_trichotomy j xs.length with hj | hj | hj
        · simp [hj, show j < xs.length + 1 by omega, show ¬ xs.length = j by omega]
        · subst hj
          simp [show xs.length < cur.size by omega]
        · simp [show ¬ j < xs.length + 1 by omega, show ¬ j < xs.length by omega, show j - xs.length ≠ 0 by omega]
  · have hr := run_append_grow (P := P) w t ty 5 i (.int .u8 0) ht hi hz ⟨g, 0, none⟩ xs.length cap (xs.map (.int .u8)) (by simp [hsize]) (by
      intro j u hj
      have hadd : (⟨g, 0, none⟩ : Addr).add j = ⟨g, j, none⟩ := by unfold Addr.add; split <;> simp_all
      rw [hadd]
      rw [← h8, List.getElem?_take] at hj
      split at hj
      · simp only [World.cell?, h3]; simpa using hj
      · cases hj) ⟨h0, 0, none⟩ 1 c [.int .u8 b] (by rw [hsize]; rfl) (by
      intro j u hj
      rcases j with _ | j
      · obtain rfl : u = .int .u8 b := by simpa using hj.symm
        exact hcell
      · simp at hj) (by omega) (by omega) (growslice_fits (by omega) (by rw [hby]; omega))
    have hge := grownCap_ge w (xs.length + 1) cap 5
    have hle := grownCap_le_maxLen w (xs.length + 1) cap 5 (by unfold maxLen; omega)
    unfold maxLen at hle
    refine ⟨_, _, hr, ⟨w.heap.size, _, _, (0, 0), by simp, hB, heap_alloc_new w.drew _, .inl rfl, ?_, by simpa using hge, hle, ?_⟩, ((Below.refl _ _).drew).alloc hB _⟩
    · simp [size_zeroCells, Value.cells]; omega
    · simp only [List.length_append, List.length_singleton, Array.toList_append, List.map_append, List.map_cons, List.map_nil]
      have hl2 : (List.map (Value.int IntKind.u8) xs ++ [Value.int IntKind.u8 b]).length = xs.length + 1 := by simp
      rw [← hl2]
      exact List.take_left
theorem wpList_append_str (w : World) (hgd : o.guard = none) (s x : Operand) (t : TypeId) (ho : o.op = .call { callee := .builtin .append, args := #[s, x], argTypes := #[t, t] })
    (ht : P.underlying t = some (.slice 5)) (hinfo : (P.info? 5).map (fun i => (i.zero, i.size, i.bytes)) = some (some (.int .u8 0), 1, 1))
    (B : Nat) (v : Value) (xs : List Int) (b : Int) (h0 c : Nat) (hs : a.eval s = v) (hx : a.eval x = .slice (some ⟨h0, 0, none⟩) 1 c)
    (h : StrRow w B v xs) (hB : B ≤ w.heap.size) (hcell : w.cell? ⟨h0, 0, none⟩ = some (.int .u8 b)) (hl : xs.length + 1 ≤ 140737488355328)
    (k : ∀ v' w', StrRow w' B v' (xs ++ [b]) → Below B w w' → wpList P ops Q rest (a.put o.dst v') w') : wpList P ops Q (o :: rest) a w := by
  obtain ⟨i, hi, hz, hsz, hby⟩ := info_parts hinfo
  refine wpList_plain hgd fun K hK => ?_
  obtain ⟨v', w', hr, h2, h3⟩ := run_append_str (P := P) w t o.type i ht hi hz hsz hby B v xs b h hB h0 c hcell hl
  unfold Oper.wp execOp
  simp only [ho, resolve, invoke, builtin, Sem.run_bind, Sem.run_pure, Result.andThen_ok, List.map_toArray, List.map_cons, List.map_nil, hs, hx, hr]
  exact hK _ _ (k v' w' h2 h3)
end
end Go.Proofs.YtfonhiakelmhhaaDoor.P
end
section
namespace Go.Proofs.YtfonhiakelmhhaaDoor.P
open Go.RowKit Go.Proofs.YtfonhiakelmhhaaDoorW.PrintWords Go.Proofs.YtfonhiakelmhhaaDoorW.PrintLast Go.Proofs.YtfonhiakelmhhaaDoorW.PrintMore
set_option linter.unusedVariables false
set_option linter.unusedSimpArgs false

def RRow (w : World) (v : Value) (xs : List Int) : Prop := ∃ A c, v = .slice A xs.length c ∧ xs.length ≤ c ∧ Kd.C (Kd.int .u8) w A xs.length xs
theorem RRow.below {w w1 : World} {v : Value} {xs : List Int} (h : RRow w v xs) (hb : Below w.heap.size w w1) : RRow w1 v xs := by
  obtain ⟨A, c, h1, h2, h3⟩ := h
  exact ⟨A, c, h1, h2, Kd.C_below h3 hb⟩
theorem RRow.reads' {w : World} {A : Option Addr} {n c : Nat} {xs : List Int} (h : RRow w (.slice A n c) xs) : n = xs.length ∧ n ≤ c ∧ Kd.C (Kd.int .u8) w A xs.length xs := by
  obtain ⟨A', c', he, hl, hr⟩ := h
  injection he with h1 h2 h3
  subst h1 h3
  exact ⟨h2, by omega, hr⟩
theorem RRow.slice {w : World} {v : Value} {xs : List Int} (h : RRow w v xs) : ∃ A c, v = .slice A xs.length c := by
  obtain ⟨A, c, h1, _⟩ := h
  exact ⟨A, c, h1⟩
def be64 (x : Int) : List Int := [x / 72057594037927936 % 256, x / 281474976710656 % 256, x / 1099511627776 % 256, x / 4294967296 % 256, x / 16777216 % 256, x / 65536 % 256, x / 256 % 256, x % 256]
def padZeros (n : Nat) : Nat := (119 - n % 64) % 64
def padList (s : ByteArray) : List Int := bytesOf s ++ [128] ++ List.replicate (padZeros s.size) 0 ++ be64 (8 * (s.size : Int))
def spec_l1Padded.f (a0 : ByteArray) : Option (List Int) := if a0.size ≤ 70368744177664 then some (padList a0) else none

set_option maxHeartbeats 4000000 in
set_option maxRecDepth 100000 in
theorem spec_l1Padded.calls (a0 : ByteArray) (r : List Int) (w : World) (h : spec_l1Padded.f a0 = some r) :
    Calls Tryd.prog 72 #[.string a0] w fun e w' => ∃ v0_ : Value, e = .returned v0_ ∧ RRow w' v0_ r ∧ Below w.heap.size w w' := by
  unfold spec_l1Padded.f at h
  split at h
  case isFalse => cases h
  case isTrue hsz =>
  obtain rfl := Option.some.inj h
  clear h
  obtain ⟨v1, w1, hr1, hS1, hb1⟩ := strRow_bytes Tryd.prog w 9 40 a0 Tryd.underlying9 Tryd.underlying40 Tryd.underlying5 (by omega)
  have HS := Aside0.mk hS1
  have HB := Aside0.mk hb1
  have hz1 := hb1.size
  have hlen : (bytesOf a0).length = a0.size := bytesOf_length a0
  generalize hx1 : bytesOf a0 = x1 at *
  have HX1 := Aside0.mk hx1
  clear hx1 hS1 hb1
  have hlen1 : x1.length ≤ 70368744177664 := by omega
  have HL := Aside0.mk hlen
  clear hlen
  go_enter Tryd.func72, Tryd.ntmps72
  go_wp2_with (at_builtin; refine wpList_append_str _ rfl (.tmp 8) (.tmp 9) 40 rfl Tryd.underlying40 info5 w.heap.size v1 x1 128 w1.heap.size 1 rfl rfl (HS.out.alloc _) (by simp; omega) (by simp) (by omega) ?_; intro v2 w2 hS2 hb2)
  have HS2 := Aside0.mk hS2
  have HB2 : Aside0 (Below w.heap.size w w2) := ⟨HB.out.trans ((((Below.refl _ _).alloc hz1 _).trans hb2))⟩
  have hz2 := HB2.out.size
  clear hS2 hb2 HS HB hr1
  have hz0 : padZeros a0.size ≤ 63 := by unfold padZeros; omega
  generalize hZ : padZeros a0.size = Z at hz0
  have HZ := Aside0.mk hZ
  clear hZ
  go_loopg [3] Z (fun kq v3 wr => ∃ k : Nat, Aside0 (k + kq = Z) ∧ Aside0 (StrRow wr w.heap.size v3 (x1 ++ [128] ++ List.replicate k 0)) ∧ Aside0 (Below w.heap.size w wr))
  case atStart => exact ⟨0, ⟨by omega⟩, ⟨by simpa using HS2.out⟩, HB2⟩
  case round =>
    obtain ⟨k, HK, HS3, HB3⟩ := hrel
    have hz3 := HB3.out.size
    obtain ⟨A, c, rfl, hc, _⟩ := HS3.out.reads
    have hxl : (x1 ++ [128] ++ List.replicate k (0 : Int)).length = a0.size + 1 + k := by simp [HL.out]; omega
    generalize hxs : x1 ++ [128] ++ List.replicate k (0 : Int) = xs at *
    have HXS := Aside0.mk hxs
    have HXL := Aside0.mk hxl
    have hxle : xs.length ≤ 70368744177800 := by have := HK.out; omega
    clear hxs hxl
    by_cases hk : k < Z
    · have ht : (((xs.length : Int) % 64) != 56) = true := by
        have e1 := HXL.out; have e2 := HZ.out; unfold padZeros at e2
        rw [bne_iff_ne]; omega
      go_wp2_with (at_builtin; refine wpList_append_str _ rfl (.tmp 15) (.tmp 16) 40 rfl Tryd.underlying40 info5 w.heap.size _ xs 0 wr.heap.size 1 rfl rfl (HS3.out.alloc _) (by simp; omega) (by simp) (by omega) ?_; intro v4 w4 hS4 hb4)
      have HS4 := Aside0.mk hS4
      have HB4 : Aside0 (Below w.heap.size w w4) := ⟨HB3.out.trans ((((Below.refl _ _).alloc hz3 _).trans hb4))⟩
      clear hS4 hb4
      go_roundg (Z - (k + 1))
      case measure => have := HK.out; omega
      case rel => exact ⟨k + 1, ⟨by omega⟩, ⟨by rw [List.replicate_succ', ← List.append_assoc, HXS.out]; exact HS4.out⟩, HB4⟩
    · have ht : (((xs.length : Int) % 64) != 56) = false := by
        have e1 := HXL.out; have e2 := HZ.out; unfold padZeros at e2; have e3 := HK.out
        rw [bne_eq_false_iff_eq]; omega
      have hkZ : k = Z := by have := HK.out; omega
      have HKZ := Aside0.mk hkZ
      clear hkZ
      have hszi : (a0.size : Int) ≤ 70368744177664 := by omega
      go_wp2_with fail
      go_loopg [3, 5] 8 (fun kq v3 v5 wq => ∃ j : Nat, Aside0 (j + kq = 8) ∧ v5 = .int .i64 (7 - (j : Int)) ∧ Aside0 (StrRow wq w.heap.size v3 (xs ++ (be64 (8 * (a0.size : Int))).take j)) ∧ Aside0 (Below w.heap.size w wq))
      case atStart => exact ⟨0, ⟨rfl⟩, rfl, ⟨by simpa using HS3.out⟩, HB3⟩
      case round =>
        obtain ⟨j, HJ, rfl, HS5, HB5⟩ := hrel
        have hz5 := HB5.out.size
        have hb64 : (be64 (8 * (a0.size : Int))).length = 8 := rfl
        by_cases hj : j < 8
        · have ht : decide ((0 : Int) ≤ 7 - (j : Int)) = true := decide_eq_true (by omega)
          have hbyte : ((a0.size : Int) * 8) / 2 ^ (8 * (7 - j)) % 256 = (be64 (8 * (a0.size : Int))).getD j 0 := by
            rw [Int.mul_comm]
            rcases (show j = 0 ∨ j = 1 ∨ j = 2 ∨ j = 3 ∨ j = 4 ∨ j = 5 ∨ j = 6 ∨ j = 7 by omega) with rfl | rfl | rfl | rfl | rfl | rfl | rfl | rfl <;> first | rfl | exact congrArg (· % 256) (Int.ediv_one _)
          have hnext : xs ++ (be64 (8 * (a0.size : Int))).take (j + 1) = xs ++ (be64 (8 * (a0.size : Int))).take j ++ [(be64 (8 * (a0.size : Int))).getD j 0] := by
            rw [List.append_assoc]; congr 1
            rw [List.take_succ_eq_append_getElem (by omega)]; congr 1
            simp [List.getD_eq_getElem?_getD, List.getElem?_eq_getElem (show j < (be64 (8 * (a0.size : Int))).length by omega)]
          have HBY := Aside0.mk hbyte
          have HNX := Aside0.mk hnext
          have hl5 : (xs ++ (be64 (8 * (a0.size : Int))).take j).length + 1 ≤ 140737488355328 := by simp; omega
          have HL5 := Aside0.mk hl5
          clear hbyte hnext hl5 hb64
          go_wp2_with (at_builtin; refine wpList_append_str _ rfl (.tmp 26) (.tmp 33) 40 rfl Tryd.underlying40 info5 w.heap.size _ _ (((a0.size : Int) * 8) / 2 ^ (8 * (7 - j)) % 256) wr.heap.size 1 rfl rfl (HS5.out.alloc _) (by simp; omega) (by simp) HL5.out ?_; intro v6 w6 hS6 hb6)
          have HS6 := Aside0.mk hS6
          have HB6 : Aside0 (Below w.heap.size w w6) := ⟨HB5.out.trans ((((Below.refl _ _).alloc hz5 _).trans hb6))⟩
          clear hS6 hb6
          go_roundg (8 - (j + 1))
          case measure => have := HJ.out; omega
          case rel => exact ⟨j + 1, ⟨by omega⟩, by first | rfl | (congr 1; omega), ⟨by rw [HNX.out, ← HBY.out]; exact HS6.out⟩, HB6⟩
        · have ht : decide ((0 : Int) ≤ 7 - (j : Int)) = false := decide_eq_false (by omega)
          have hj8 : j = 8 := by have := HJ.out; omega
          have HJ8 := Aside0.mk hj8
          clear hj8 hb64
          go_wp2_with fail
          go_ret
          refine ⟨_, rfl, ?_, HB5.out⟩
          have e := HS5.out
          rw [HJ8.out] at e
          unfold padList
          rw [HX1.out, HZ.out, ← HKZ.out, HXS.out]
          exact e.reads
end Go.Proofs.YtfonhiakelmhhaaDoor.P
end
section
namespace Go.Proofs.YtfonhiakelmhhaaDoor.P
open Go.RowKit Go.Proofs.YtfonhiakelmhhaaDoorW.PrintWords Go.Proofs.YtfonhiakelmhhaaDoorW.PrintLast Go.Proofs.YtfonhiakelmhhaaDoorW.PrintMore
set_option linter.unusedVariables false
set_option linter.unusedSimpArgs false

def impl_bigEndian.l0 : Nat → Int → Int → List Int → Int → Int → Option (ByteArray)
  | 0, _, _, _, _, _ => none
  | k + 1, x0, x1, x5, x10, x11 => if x11 < x10 then (if 0 ≤ (wrap64 (8 * (wrap64 ((wrap64 (x1 - 1)) - x11)))) then (if 0 ≤ x11 then (if x11 < (x5.length : Int) then (impl_bigEndian.l0 k x0 x1 (x5.set (x11 : Int).toNat ((shr .u64 x0 (wrap64 (8 * (wrap64 ((wrap64 (x1 - 1)) - x11))))) % 256)) x10 (wrap64 (x11 + 1))) else (none)) else (none)) else (none)) else (some (strOfNums x5))
def impl_bigEndian.f (k : Nat) (a0 : Int) (a1 : Int) : Option (ByteArray) := if 0 ≤ a1 then (if (a1 : Int).toNat ≤ 281474976710656 then ((some (List.replicate (a1 : Int).toNat 0 : List Int)).bind fun y319 => (impl_bigEndian.l0 k a0 a1 y319 (y319.length : Int) 0)) else (none)) else (none)
set_option maxHeartbeats 8000000 in
set_option maxRecDepth 100000 in
theorem impl_bigEndian.calls (k : Nat) (a0 : Int) (a1 : Int) (r : ByteArray) (w : World) (h : impl_bigEndian.f k a0 a1 = some r) :
    Calls Tryd.prog 98 #[.int .u64 a0, .int .i64 a1] w fun e w' => e = .returned (.string r) ∧ Below w.heap.size w w' := by
  have HB := Aside0.mk (Below.refl w.heap.size w)
  have H : (if 0 ≤ a1 then (if (a1 : Int).toNat ≤ 281474976710656 then ((some (List.replicate (a1 : Int).toNat 0 : List Int)).bind fun y319 => (impl_bigEndian.l0 k a0 a1 y319 (y319.length : Int) 0)) else (none)) else (none)) = some r := h
  clear h
  by_cases c3 : 0 ≤ a1
  · rw [if_pos c3] at H
    have c3b0 := eq_true c3
    have c3b1 : decide (0 ≤ a1) = true := decide_eq_true c3
    clear c3
    by_cases c4 : (a1 : Int).toNat ≤ 281474976710656
    · rw [if_pos c4] at H
      have c4b0 := eq_true c4
      have c4b1 : decide ((a1 : Int).toNat ≤ 281474976710656) = true := decide_eq_true c4
      clear c4
      obtain ⟨y319, hy319⟩ : ∃ y_ : List Int, y_ = (List.replicate (a1 : Int).toNat 0) := ⟨_, rfl⟩
      replace H : (impl_bigEndian.l0 k a0 a1 y319 (y319.length : Int) 0) = some r := by first | (rw [hy319]; with_reducible exact H) | (have H2_ := (Option.bind_some _ _).symm.trans H; rw [hy319]; with_reducible exact H2_) | (have H2_ := (Option.bind_some _ _).symm.trans H; with_reducible exact H2_) | with_reducible exact H | (rw [hy319]; exact H) | exact H
      have Ny319 := Aside0.mk hy319
      clear hy319
      have H' := Aside0.mk H
      clear H
      go_enter Tryd.func98, Tryd.ntmps98
      go_wp2_with (first | ((with_reducible refine gate_dst (N := 8) rfl ?_); refine Kd.R_make (Kd.int .u8) _ 5 rfl (N := 8) rfl 40 _ _ rfl a1 rfl rfl Tryd.underlying40 (.int .u8 0) 1 info5 rfl (by decide) (by omega) 0 (ok := fun _ => True) (okp := fun _ => True) rfl (fun _ hk => hk) trivial (of_decide_eq_true (by first | (with_reducible assumption) | assumption)) (Nat.le_trans (Nat.mul_le_mul_right _ (of_decide_eq_true (by first | (with_reducible assumption) | assumption) : a1.toNat ≤ 281474976710656)) (by omega)) (Below.refl _ _) (Nat.le_refl _) ?_; intro v320 w5 ho6 hb hg_ hnew_; clear hg_ hnew_; (first | rw [← Ny319.out] at ho6 | (simp only [Int.reduceToNat] at ho6; rw [← Ny319.out] at ho6)); have n0_ := Aside0.mk (Kd.R_lower ho6 (below_size (by repeat (first | (with_reducible first | exact HB.out | apply below_alloc | apply pw_below_drewN | apply below_drew1) | exact HB.out)))); have n1_ := Aside0.mk (below_step (by repeat (first | (with_reducible first | exact HB.out | apply below_alloc | apply pw_below_drewN | apply below_drew1) | exact HB.out)) hb); clear HB; have HO321 := n0_; have HB := n1_; clear n0_ n1_; clear hb ho6; obtain ⟨Ao7, co7, eo7⟩ := Kd.R_slice HO321.out; subst eo7))
      go_loopg [11] k (fun kq v11 w' => ∃ (x5_1 : List Int) (x11_1 : Int), v11 = .int .i64 x11_1 ∧ Aside0 (impl_bigEndian.l0 kq a0 a1 x5_1 (y319.length : Int) x11_1 = some r) ∧ Aside0 (kq ≤ k) ∧ Aside0 (Kd.R (Kd.int .u8) 5 w' w.heap.size (fun _ => True) (.slice Ao7 y319.length co7) x5_1) ∧ Aside0 (Below w.heap.size w w'))
      case atStart => exact ⟨(y319), (0), (by first | rfl | (simp; done) | (simp [*]; done)), H', ⟨Nat.le_refl _⟩, ⟨by (with_reducible repeat (first | apply Kd.R_alloc | apply Kd.R_drewN | apply Kd.R_drew)); exact HO321.out⟩, ⟨by repeat (first | (with_reducible first | exact HB.out | apply below_alloc | apply pw_below_drewN | apply below_drew1) | exact HB.out)⟩⟩
      case round =>
        clear H'
        try clear p2
        try clear c3
        try clear c3b0
        try clear c3b1
        try clear c4
        try clear c4b0
        try clear c4b1
        obtain ⟨x5_1, x11_1, rfl, HA, HK1, HO_5, HB⟩ := hrel
        have hl5_1 := (Kd.R_reads' HO_5.out).1
        rw [hl5_1] at HO_5
        (try simp only [hl5_1])
        cases gk with
        | zero => exact absurd HA.out (by simp [impl_bigEndian.l0])
        | succ k1 =>
          have H := HA.out
          clear HA
          simp only [impl_bigEndian.l0] at H
          by_cases c8 : x11_1 < (y319.length : Int)
          · rw [if_pos c8] at H
            have c8b0 : decide (x11_1 < (y319.length : Int)) = true := decide_eq_true c8
            clear c8
            obtain ⟨ji9, hji9⟩ : ∃ j_ : Int, (wrap64 (8 * (wrap64 ((wrap64 (a1 - 1)) - x11_1)))) = j_ := ⟨_, rfl⟩
            replace H : (if 0 ≤ (ji9) then (if 0 ≤ x11_1 then (if x11_1 < (x5_1.length : Int) then (impl_bigEndian.l0 k1 a0 a1 (x5_1.set (x11_1 : Int).toNat ((shr .u64 a0 (ji9)) % 256)) (y319.length : Int) (wrap64 (x11_1 + 1))) else (none)) else (none)) else (none)) = some r := by first | (rw [hji9] at H; exact H) | (simp only [hji9] at H ⊢; exact H)
            have hji9w : (IntKind.i64.wrap (8 * (wrap64 ((wrap64 (a1 - 1)) - x11_1)))) = ji9 := (i64_w _).trans hji9
            by_cases c10 : 0 ≤ (ji9)
            · rw [if_pos c10] at H
              have c10b0 := eq_true c10
              have c10b1 : decide (0 ≤ (ji9)) = true := decide_eq_true c10
              clear c10
              obtain ⟨ji11, hji11⟩ : ∃ j_ : Int, (shr .u64 a0 (ji9)) = j_ := ⟨_, rfl⟩
              replace H : (if 0 ≤ x11_1 then (if x11_1 < (x5_1.length : Int) then (impl_bigEndian.l0 k1 a0 a1 (x5_1.set (x11_1 : Int).toNat ((ji11) % 256)) (y319.length : Int) (wrap64 (x11_1 + 1))) else (none)) else (none)) = some r := by first | (rw [hji11] at H; exact H) | (simp only [hji11] at H ⊢; exact H)
              have hji11_ : (a0 / 2 ^ min (ji9).toNat 64) = ji11 := hji11
              have hshq : ∀ W, (Op.shift BinOp.shr IntKind.u64 a0 IntKind.i64 (wrap64 (8 * (wrap64 ((wrap64 (a1 - 1)) - x11_1))))).run Tryd.prog W = .ok (.int .u64 ji11) W := fun W => by rw [hji9, shift_shr_any _ _ _ _ (of_decide_eq_true (by assumption))]; exact congrArg (fun z => Result.ok (Value.int .u64 z) W) hji11_
              have hji11z : (ji9) ≤ 64 → (a0 / 2 ^ (ji9).toNat) = ji11 := shr_small hji11
              by_cases c12 : 0 ≤ x11_1
              · rw [if_pos c12] at H
                have c12b0 : decide (0 ≤ x11_1) = true := decide_eq_true c12
                clear c12
                by_cases c13 : x11_1 < (x5_1.length : Int)
                · rw [if_pos c13] at H
                  have c13b0 : decide (x11_1 < (x5_1.length : Int)) = true := decide_eq_true c13
                  clear c13
                  obtain ⟨y322, hy322⟩ : ∃ y_ : List Int, y_ = (x5_1.set (x11_1 : Int).toNat ((ji11) % 256)) := ⟨_, rfl⟩
                  replace H : (impl_bigEndian.l0 k1 a0 a1 y322 (y319.length : Int) (wrap64 (x11_1 + 1))) = some r := by first | (rw [hy322]; with_reducible exact H) | (have H2_ := (Option.bind_some _ _).symm.trans H; rw [hy322]; with_reducible exact H2_) | (have H2_ := (Option.bind_some _ _).symm.trans H; with_reducible exact H2_) | with_reducible exact H | (rw [hy322]; exact H) | exact H
                  have Ny322 := Aside0.mk hy322
                  clear hy322
                  have H' := Aside0.mk H
                  clear H
                  have p14 : 0 ≤ (x11_1 : Int) := of_decide_eq_true (by first | (with_reducible assumption) | assumption)
                  have q14 : (x11_1 : Int) < ((x5_1.length : Int) : Int) := of_decide_eq_true (by first | (with_reducible assumption) | assumption)
                  obtain ⟨go14, co14, eo14, gb14, gl14, cl14, HG14⟩ := Kd.R_form HO_5.out (by omega)
                  (first | cases eo14 | (injection eo14 with ea_ en_ ec_; (first | subst ea_ | (injection ea_ with ea_; subst ea_)); subst ec_; clear en_))
                  have GB14 := Aside0.mk gb14
                  have GG14 := Aside0.mk HG14
                  clear gb14 gl14 HG14
                  obtain ⟨hx14_0, hf14_0⟩ := Kd.R_celln 0 HO_5.out (x11_1 : Int) p14 q14
                  replace p14 := eq_true p14
                  replace q14 := eq_true q14
                  have HP15 := Kd.R_putg HO_5.out (x11_1 : Int) ((ji11) % 256)
                  go_wp2_with (first | ((with_reducible refine gate_store (t := 5) (p := 24) rfl ?_); refine store_event (t := 5) (p := 24) (v := ?vo_w16) (w1 := (wr.setCell ⟨go14, (x11_1 : Int).toNat, none⟩ (.int .u8 ((ji11) % 256)))) ?hg ?ho ?hn ?hr ?_; (case ho => rfl); (case hg => rfl); (case hn => rfl); (case hr => first | (go_simp; done) | (go_simp; rfl)); intro w16 hw; have hg : wr.grownBy w16 (some go14) := (by rw [hw]; exact HP15.2); have hp_ : Kd.R (Kd.int .u8) 5 w16 w.heap.size (fun _ => True) (.slice (some ⟨go14, 0, none⟩) x5_1.length co7) y322 := (by rw [hw, Ny322.out]; exact HP15.1); clear HP15; have n0_ := Aside0.mk (hp_); have n1_ := Aside0.mk ((by rw [hw]; exact below_set (HB.out) GB14.out : Below w.heap.size w w16)); clear HO_5; clear HB; have HO_5 := n0_; have HB := n1_; clear n0_ n1_; clear hg hw hp_))
                  (try simp only [← hl5_1])
                  go_roundg k1
                  case measure => have := HK1.out; omega
                  case rel => exact ⟨(y322), (wrap64 (x11_1 + 1)), (by first | rfl | (simp; done) | (simp [*]; done)), H', ⟨by have := HK1.out; omega⟩, ⟨by (try simp only [hl5_1]); (with_reducible repeat (first | apply Kd.R_alloc | apply Kd.R_drewN | apply Kd.R_drew)); exact HO_5.out⟩, ⟨by repeat (first | (with_reducible first | exact HB.out | apply below_alloc | apply pw_below_drewN | apply below_drew1) | exact HB.out)⟩⟩
                · rw [if_neg c13] at H
                  exact absurd H (by simp)
              · rw [if_neg c12] at H
                exact absurd H (by simp)
            · rw [if_neg c10] at H
              exact absurd H (by simp)
          · rw [if_neg c8] at H
            have c8b0 : decide (x11_1 < (y319.length : Int)) = false := decide_eq_false c8
            have c8b9 : decide (x11_1 < (x5_1.length : Int)) = false := by first | (rw [← hl5_1]; exact c8b0) | (rw [hl5_1]; exact c8b0)
            clear c8
            obtain rfl := Option.some.inj H
            have hcv17 := own_string (P := Tryd.prog) Tryd.underlying40 Tryd.underlying5 Tryd.underlying9 (Kd.own_of_R HO_5.out)
            have hcv17q := fun nq : Nat => own_string (P := Tryd.prog) Tryd.underlying40 Tryd.underlying5 Tryd.underlying9 (pw_own_drewN (Kd.own_of_R HO_5.out) nq)
            go_wp2
            go_ret
            exact ⟨by first | rfl | (simp [errW_none, errW_some] <;> rfl) | (simp [*, errW_none, errW_some] <;> rfl), by repeat (first | (with_reducible first | exact HB.out | apply below_alloc | apply pw_below_drewN | apply below_drew1) | exact HB.out)⟩
    · rw [if_neg c4] at H
      exact absurd H (by simp)
  · rw [if_neg c3] at H
    exact absurd H (by simp)

end Go.Proofs.YtfonhiakelmhhaaDoor.P
end
section
namespace Go.Proofs.YtfonhiakelmhhaaDoor.P
open Go.RowKit Go.Proofs.YtfonhiakelmhhaaDoorW.PrintWords Go.Proofs.YtfonhiakelmhhaaDoorW.PrintLast Go.Proofs.YtfonhiakelmhhaaDoorW.PrintMore
set_option linter.unusedVariables false
set_option linter.unusedSimpArgs false
def be32 (x : Int) : List Int := [x / 16777216 % 256, x / 65536 % 256, x / 256 % 256, x % 256]
def be16 (x : Int) : List Int := [x / 256 % 256, x % 256]

theorem be_step (k : Nat) (x n : Int) (l : List Int) (i : Nat) (hi : (i : Int) < n) (hn : n ≤ 8) (hl : (l.length : Int) = n) :
    impl_bigEndian.l0 (k + 1) x n l n (i : Int) = impl_bigEndian.l0 k x n (l.set i (x / 2 ^ (8 * (n - 1 - i)).toNat % 256)) n ((i + 1 : Nat) : Int) := by
  have e1 : wrap64 (8 * (wrap64 ((wrap64 (n - 1)) - i))) = 8 * (n - 1 - i) := by unfold wrap64; omega
  have e2 : wrap64 ((i : Int) + 1) = ((i + 1 : Nat) : Int) := by unfold wrap64; omega
  have e3 : shr .u64 x (8 * (n - 1 - i)) = x / 2 ^ (8 * (n - 1 - i)).toNat := by
    unfold shr
    rw [show min (8 * (n - 1 - i)).toNat IntKind.u64.bits = (8 * (n - 1 - i)).toNat from Nat.min_eq_left (by show _ ≤ 64; omega)]
  rw [impl_bigEndian.l0, if_pos hi, e1, if_pos (by omega), if_pos (by omega), if_pos (by omega), e3, e2, Int.toNat_natCast]
theorem be_end (k : Nat) (x n : Int) (l : List Int) : impl_bigEndian.l0 (k + 1) x n l n n = some (strOfNums l) := by
  rw [impl_bigEndian.l0, if_neg (by omega)]

theorem be_f8 (x : Int) : impl_bigEndian.f 10 x 8 = some (strOfNums (be64 x)) := by
  show impl_bigEndian.l0 10 x 8 [0, 0, 0, 0, 0, 0, 0, 0] 8 ((0 : Nat) : Int) = _
  rw [be_step _ _ _ _ _ (by decide) (by decide) (by rfl), be_step _ _ _ _ _ (by decide) (by decide) (by rfl), be_step _ _ _ _ _ (by decide) (by decide) (by rfl), be_step _ _ _ _ _ (by decide) (by decide) (by rfl),
    be_step _ _ _ _ _ (by decide) (by decide) (by rfl), be_step _ _ _ _ _ (by decide) (by decide) (by rfl), be_step _ _ _ _ _ (by decide) (by decide) (by rfl), be_step _ _ _ _ _ (by decide) (by decide) (by rfl)]
  refine (be_end _ _ _ _).trans ?_
  simp [be64]
theorem be_f4 (x : Int) : impl_bigEndian.f 10 x 4 = some (strOfNums (be32 x)) := by
  show impl_bigEndian.l0 10 x 4 [0, 0, 0, 0] 4 ((0 : Nat) : Int) = _
  rw [be_step _ _ _ _ _ (by decide) (by decide) (by rfl), be_step _ _ _ _ _ (by decide) (by decide) (by rfl), be_step _ _ _ _ _ (by decide) (by decide) (by rfl), be_step _ _ _ _ _ (by decide) (by decide) (by rfl)]
  refine (be_end _ _ _ _).trans ?_
  simp [be32]
theorem be_f2 (x : Int) : impl_bigEndian.f 10 x 2 = some (strOfNums (be16 x)) := by
  show impl_bigEndian.l0 10 x 2 [0, 0] 2 ((0 : Nat) : Int) = _
  rw [be_step _ _ _ _ _ (by decide) (by decide) (by rfl), be_step _ _ _ _ _ (by decide) (by decide) (by rfl)]
  refine (be_end _ _ _ _).trans ?_
  simp [be16]
end Go.Proofs.YtfonhiakelmhhaaDoor.P
end
section
namespace Go.Proofs.YtfonhiakelmhhaaDoor.P
open Go.RowKit Go.Proofs.YtfonhiakelmhhaaDoorW.PrintWords Go.Proofs.YtfonhiakelmhhaaDoorW.PrintLast Go.Proofs.YtfonhiakelmhhaaDoorW.PrintMore
set_option linter.unusedVariables false
set_option linter.unusedSimpArgs false

set_option maxHeartbeats 4000000 in
set_option maxRecDepth 100000 in
theorem newHash_calls (w : World) : Calls Tryd.prog 127 #[] w fun e w' => e = .returned (.pointer (some ⟨w.heap.size, 0, none⟩)) ∧ HashIs w' w.heap.size [] 0 ∧ Below w.heap.size w w' := by
  go_enter Tryd.func127, Tryd.ntmps127
  go_wp2
  go_ret
  refine ⟨rfl, ⟨List.replicate 64 0, ⟨by simp, ?_, ?_⟩, by simp⟩, (Below.refl _ _).alloc (Nat.le_refl _) _⟩
  · intro x hx
    obtain rfl := List.eq_of_mem_replicate hx
    omega
  · exact heap_alloc_new w _

theorem bytesOf_append (a b : ByteArray) : bytesOf (a ++ b) = bytesOf a ++ bytesOf b := by
  unfold bytesOf
  rw [ByteArray.data_append, Array.toList_append, List.map_append]
theorem bytesOf_repeat0 (n : Nat) : bytesOf ⟨(Lib.repeatL [0] n).toArray⟩ = List.replicate n 0 := by
  unfold bytesOf
  induction n with
  | zero => rfl
  | succ n ih => simp only [Lib.repeatL, List.replicate_succ] at *; rw [← ih]; rfl
theorem repeatL0_length (n : Nat) : (Lib.repeatL [0] n).length = n := by
  induction n with
  | zero => rfl
  | succ n ih => simp [Lib.repeatL, ih]
theorem bytesOf_strOfNums (l : List Int) (h : Bytes l) : bytesOf (strOfNums l) = l := by
  unfold bytesOf
  rw [strOfNums_data, List.map_map]
  conv => rhs; rw [← List.map_id l]
  refine List.map_congr_left fun x hx => ?_
  obtain ⟨h1, h2⟩ := h x hx
  simp only [Function.comp, id]
  have : (UInt8.ofNat x.toNat).toNat = x.toNat := by rw [UInt8.toNat_ofNat']; omega
  omega
theorem bytes_be64 (x : Int) : Bytes (be64 x) := by
  intro y hy
  unfold be64 at hy
  simp only [List.mem_cons, List.not_mem_nil, or_false] at hy
  rcases hy with rfl | rfl | rfl | rfl | rfl | rfl | rfl | rfl <;> omega
theorem builderF_at {T e : TypeId} {B b : Nat} {p : Value} {bs : List Value} {w w' : World} (h : Lib.BuilderAtF T e B b p bs w) (hb : Below w.heap.size w w') : Lib.BuilderAtF T e B b p bs w' := by
  obtain ⟨h1, v, h2, h3, h4⟩ := h
  have hlt : b < w.heap.size := by
    rcases Nat.lt_or_ge b w.heap.size with h' | h'
    · exact h'
    · simp [Array.getElem?_eq_none h'] at h2
  refine ⟨h1, v, (hb.block b hlt).trans h2, h3.kept (grown_of_below hb none) ?_, h4⟩
  cases hv : v.ownBlock with
  | none => exact .inl rfl
  | some x => exact .inr (by simp)
theorem builderF_below {T e : TypeId} {B b : Nat} {bs : List Value} {w w' : World} (h : Lib.IsBuilderF T e B b bs w) (hb : Below w.heap.size w w') : Lib.IsBuilderF T e B b bs w' :=
  h.imp (fun k => builderF_at k hb) (fun k => builderF_at k hb)
theorem byteCells_length' (l : List Int) : (Lib.byteCells (l.map fun x => UInt8.ofNat x.toNat)).length = l.length := by rw [Lib.byteCells_length, List.length_map]
def padM (m : List Int) : List Int := m ++ [128] ++ List.replicate (padZeros m.length) 0 ++ be64 (8 * (m.length : Int))
def shaNums (m : List Int) : List Int := (stOf (padM m)).list.flatMap be32
theorem be32_wrap (x : Int) : be32 (IntKind.u64.wrap x) = be32 x := by
  unfold be32
  rw [IntKind.wrap_u64]
  have e1 : x % 18446744073709551616 / 16777216 % 256 = x / 16777216 % 256 := by omega
  have e2 : x % 18446744073709551616 / 65536 % 256 = x / 65536 % 256 := by omega
  have e3 : x % 18446744073709551616 / 256 % 256 = x / 256 % 256 := by omega
  have e4 : x % 18446744073709551616 % 256 = x % 256 := by omega
  rw [e1, e2, e3, e4]
def shaS (m : List Int) : ByteArray := strOfNums (shaNums m)

set_option maxHeartbeats 16000000 in
set_option maxRecDepth 100000 in
theorem sum_calls (b : Nat) (m : List Int) (w : World) (h : HashIs w b m m.length) (hG : Glob w) (hlen : m.length ≤ 576460752303423488) :
    Calls Tryd.prog 129 #[.pointer (some ⟨b, 0, none⟩)] w fun e w' => e = .returned (.string (shaS m)) ∧ w.grownBy w' (some b) := by
  have hbl := h.lt
  have hne := glob_ne h hG
  obtain ⟨blk, hA, hp⟩ := h
  have q73 := (hashAt_LA hA).cell (hL_size _ _ _ _ hA.blk64)
  have HI : Aside0 (HashIs w b m m.length) := ⟨blk, hA, hp⟩
  have HG := Aside0.mk hG
  have HNE := Aside0.mk hne
  clear hA hp hG hne
  have hc : (119 - (m.length : Int) % 64) % 64 = ((padZeros m.length : Nat) : Int) := by unfold padZeros; omega
  have hz0 : padZeros m.length ≤ 63 := by unfold padZeros; omega
  have hcat : (9223372036854775807 < 1 + (Lib.repeatL [0] (padZeros m.length)).length) = False := eq_false (by rw [repeatL0_length]; omega)
  go_enter Tryd.func129, Tryd.ntmps129
  go_wp2_with (go_at_call 135; refine (Tryd.strings_Repeat ⟨#[0]⟩ (padZeros m.length) _ (by omega) (by show 1 * padZeros m.length ≤ _; omega)).mono ?_; rintro e w1 ⟨rfl, hb1⟩)
  have hs1 : bytesOf ((⟨#[128]⟩ : ByteArray) ++ ⟨(Lib.repeatL [0] (padZeros m.length)).toArray⟩) = [128] ++ List.replicate (padZeros m.length) 0 := by rw [bytesOf_append, bytesOf_repeat0]; rfl
  generalize ((⟨#[128]⟩ : ByteArray) ++ ⟨(Lib.repeatL [0] (padZeros m.length)).toArray⟩) = s1 at hs1 ⊢
  have HS1 := Aside0.mk hs1
  have hl1 : s1.size ≤ 64 := by rw [← bytesOf_length, hs1]; simp; omega
  have HB1 := Aside0.mk hb1
  have HI1 : Aside0 (HashIs w1 b m m.length) := ⟨HI.out.keep (hb1.block b hbl)⟩
  have HG1 : Aside0 (Glob w1) := ⟨HG.out.of_below hb1⟩
  clear hs1 hb1 hc hcat
  refine (take_calls b m s1 _ HI1.out HG1.out (by omega)).mono ?_
  rintro e w2 ⟨rfl, hI2, hK2⟩
  have HK2 := Aside0.mk (grownBy_trans (grown_of_below HB1.out (some b)) hK2)
  have HG2 : Aside0 (Glob w2) := ⟨HG.out.of_grown HK2.out HNE.out⟩
  have HI2 := Aside0.mk hI2
  clear hI2 hK2 HI1 HG1 HB1
  go_wp2_with fail
  refine (impl_bigEndian.calls 10 _ 8 _ _ (be_f8 _)).mono ?_
  rintro e w3 ⟨rfl, hb3⟩
  have hs2 : bytesOf (strOfNums (be64 ((m.length : Int) * 8))) = be64 ((m.length : Int) * 8) := bytesOf_strOfNums _ (bytes_be64 _)
  generalize strOfNums (be64 ((m.length : Int) * 8)) = s2 at hs2 ⊢
  have hl2 : s2.size = 8 := by rw [← bytesOf_length, hs2]; rfl
  have HS2 := Aside0.mk hs2
  have HL2 := Aside0.mk hl2
  have HI3 : Aside0 (HashIs w3 b (m ++ bytesOf s1) (m ++ bytesOf s1).length) := ⟨HI2.out.keep (hb3.block b HI2.out.lt)⟩
  have HG3 : Aside0 (Glob w3) := ⟨HG2.out.of_below hb3⟩
  have HK3 := Aside0.mk (grownBy_trans HK2.out (grown_of_below hb3 (some b)))
  clear hs2 hl2 hb3 HI2 HG2 HK2
  go_wp2_with fail
  refine (take_calls b _ s2 _ HI3.out HG3.out (by rw [List.length_append, bytesOf_length, HL2.out]; omega)).mono ?_
  rintro e w4 ⟨rfl, hI4, hK4⟩
  have HK4 := Aside0.mk (grownBy_trans HK3.out hK4)
  have hm4 : m ++ bytesOf s1 ++ bytesOf s2 = padM m := by
    rw [HS1.out, HS2.out, Int.mul_comm]
    unfold padM
    simp only [List.append_assoc]
  rw [hm4] at hI4
  obtain ⟨blk4, hA4, _⟩ := hI4
  have HL4 := Aside0.mk (hashAt_LA hA4)
  clear hK4 HI3 HG3 HK3 hA4 hm4
  obtain ⟨ss, hss⟩ : ∃ ss, ss = stOf (padM m) := ⟨_, rfl⟩
  rw [← hss] at HL4
  have HSS := Aside0.mk hss
  clear hss
  obtain ⟨sa, sb, sc, sd, se, sf, sg, sh⟩ := ss
  have HLa : Aside0 (LA (w4.alloc (.cells #[.pointer none, .slice none 0 0] 114)) b 185 (hL (S8.mk sa sb sc sd se sf sg sh) blk4 (((padM m).length % 64 : Nat) : Int) ((padM m).length : Int))) := ⟨HL4.out.alloc _⟩
  have h0 : Lib.IsBuilderF 114 5 w4.heap.size w4.heap.size [] (w4.alloc (.cells #[.pointer none, .slice none 0 0] 114)) := Lib.IsBuilderF.of (Lib.fresh_isBuilder 114 5 w4)
  have H0 := Aside0.mk h0
  have b0 : Aside0 (Below w4.heap.size w4 (w4.alloc (.cells #[.pointer none, .slice none 0 0] 114))) := ⟨(Below.refl _ w4).alloc (Nat.le_refl _) _⟩
  clear h0
  have l0 := HLa.out.cell (i := 0) (v := .int .u32 sa) rfl
  have l1 := HLa.out.cell (i := 1) (v := .int .u32 sb) rfl
  have l2 := HLa.out.cell (i := 2) (v := .int .u32 sc) rfl
  have l3 := HLa.out.cell (i := 3) (v := .int .u32 sd) rfl
  have l4 := HLa.out.cell (i := 4) (v := .int .u32 se) rfl
  have l5 := HLa.out.cell (i := 5) (v := .int .u32 sf) rfl
  have l6 := HLa.out.cell (i := 6) (v := .int .u32 sg) rfl
  have l7 := HLa.out.cell (i := 7) (v := .int .u32 sh) rfl
  go_wp2_with fail
  clear l0 l1 l2 l3 l4 l5 l6 l7
  have hB0 : w4.heap.size ≤ (w4.alloc (.cells #[.pointer none, .slice none 0 0] 114)).heap.size := b0.out.size
  generalize (w4.alloc (.cells #[.pointer none, .slice none 0 0] 114)) = wb at H0 b0 hB0 ⊢
  go_loopw [6, 32] (fun v6 v32 wr => ∃ n : Nat, n ≤ 8 ∧ v32 = .int .i64 n ∧ Aside0 (Lib.IsBuilderF 114 5 w4.heap.size w4.heap.size (Lib.byteCells ((((S8.mk sa sb sc sd se sf sg sh).list.take n).flatMap be32).map fun x => UInt8.ofNat x.toNat)) wr) ∧ Aside0 (Below w4.heap.size w4 wr)) (fun _ v32 _ => 8 - (intOf v32).toNat)
  case atStart => exact ⟨0, by omega, rfl, H0, b0⟩
  case round =>
    clear H0 b0 hB0
    obtain ⟨n, hn, rfl, HI, HB⟩ := hrel
    have hz := HB.out.size
    by_cases hlt : n < 8
    · have ht : decide ((n : Int) < 8) = true := decide_eq_true (by omega)
      have hix : ∀ W, (Instr.index 182 (.agg #[.int .u32 sa, .int .u32 sb, .int .u32 sc, .int .u32 sd, .int .u32 se, .int .u32 sf, .int .u32 sg, .int .u32 sh]) (.int .i64 (n : Int))).run Tryd.prog W = .ok (.int .u32 ((S8.mk sa sb sc sd se sf sg sh).list.getD n 0)) W := fun W =>
        run_index_agg W 182 8 103 [.int .u32 sa, .int .u32 sb, .int .u32 sc, .int .u32 sd, .int .u32 se, .int .u32 sf, .int .u32 sg, .int .u32 sh] .u32 n _ Tryd.underlying182 rfl size97 agg97 (list8_get (S8.mk sa sb sc sd se sf sg sh) n hlt)
      have hnx : (((S8.mk sa sb sc sd se sf sg sh).list.take (n + 1)).flatMap be32) = (((S8.mk sa sb sc sd se sf sg sh).list.take n).flatMap be32) ++ be32 ((S8.mk sa sb sc sd se sf sg sh).list.getD n 0) := by
        rcases (show n = 0 ∨ n = 1 ∨ n = 2 ∨ n = 3 ∨ n = 4 ∨ n = 5 ∨ n = 6 ∨ n = 7 by omega) with rfl | rfl | rfl | rfl | rfl | rfl | rfl | rfl <;> rfl
      have hl : (((S8.mk sa sb sc sd se sf sg sh).list.take n).flatMap be32).length ≤ 28 := by
        rcases (show n = 0 ∨ n = 1 ∨ n = 2 ∨ n = 3 ∨ n = 4 ∨ n = 5 ∨ n = 6 ∨ n = 7 by omega) with rfl | rfl | rfl | rfl | rfl | rfl | rfl | rfl <;> simp [S8.list, be32]
      have HNX := Aside0.mk hnx
      have HL := Aside0.mk hl
      clear hnx hl
      generalize (S8.mk sa sb sc sd se sf sg sh).list.getD n 0 = x at hix HNX
      go_wp2_with fail
      refine (impl_bigEndian.calls 10 _ 4 _ _ (be_f4 _)).mono ?_
      rintro e w5 ⟨rfl, hb5⟩
      rw [be32_wrap]
      have HI5 := Aside0.mk (builderF_below HI.out hb5)
      have HB5 : Aside0 (Below w4.heap.size w4 w5) := ⟨below_step HB.out hb5⟩
      have hz5 := HB5.out.size
      clear hb5 HI HB
      go_wp2_with fail
      refine (Tryd.Builder_WriteString_f w4.heap.size w4.heap.size _ (strOfNums (be32 x)) _ HI5.out (by rw [byteCells_length', strOfNums_size]; have := HL.out; show _ + 4 ≤ _; omega) hz5).mono ?_
      rintro e w6 ⟨rfl, h6, hb6⟩
      have HB6 : Aside0 (Below w4.heap.size w4 w6) := ⟨HB5.out.trans hb6⟩
      have HI6 : Aside0 (Lib.IsBuilderF 114 5 w4.heap.size w4.heap.size (Lib.byteCells ((((S8.mk sa sb sc sd se sf sg sh).list.take (n + 1)).flatMap be32).map fun x => UInt8.ofNat x.toNat)) w6) := ⟨by
        rw [HNX.out, List.map_append, Lib.byteCells_append]
        exact .inr h6⟩
      clear h6 hb6
      go_wp2_with fail
      refine ⟨⟨n + 1, by omega, by simp, HI6, HB6⟩, by simp [intOf]; omega⟩
    · have hn8 : n = 8 := by omega
      have ht : decide ((n : Int) < 8) = false := decide_eq_false (by omega)
      have HI8 : Aside0 (Lib.IsBuilderF 114 5 w4.heap.size w4.heap.size (Lib.byteCells (((S8.mk sa sb sc sd se sf sg sh).list.flatMap be32).map fun x => UInt8.ofNat x.toNat)) wr) := ⟨by have e := HI.out; rw [hn8] at e; exact e⟩
      clear hn8 HI
      go_wp2_with fail
      refine (Tryd.Builder_String_any_f w4.heap.size w4.heap.size _ _ HI8.out hz).mono ?_
      rintro e w7 ⟨rfl, _, hb7⟩
      go_wp2_with fail
      go_ret
      refine ⟨?_, grownBy_trans HK4.out ?_⟩
      · unfold shaS shaNums
        rw [← HSS.out]
        rfl
      · have hb := HB.out.trans hb7
        exact grown_of_below hb _
end Go.Proofs.YtfonhiakelmhhaaDoor.P
end
section
namespace Go.Proofs.YtfonhiakelmhhaaDoor.P
open Go.RowKit Go.Proofs.YtfonhiakelmhhaaDoorW.PrintWords Go.Proofs.YtfonhiakelmhhaaDoorW.PrintLast Go.Proofs.YtfonhiakelmhhaaDoorW.PrintMore
set_option linter.unusedVariables false
set_option linter.unusedSimpArgs false

def StrsAt (w : World) (a o : Nat) (ps : List ByteArray) : Prop := a < w.heap.size ∧ ∀ (i : Nat) s, ps[i]? = some s → w.cell? ⟨a, o + i, none⟩ = some (.string s)
theorem StrsAt.grown {w w' : World} {a o : Nat} {ps : List ByteArray} {row : Option Nat} (h : StrsAt w a o ps) (hk : w.grownBy w' row) (hr : some a ≠ row) : StrsAt w' a o ps := by
  obtain ⟨h1, h2⟩ := h
  have hs := hk.size
  refine ⟨by omega, fun i s hi => ?_⟩
  rw [← h2 i s hi]
  simp only [World.cell?, hk.block a h1 hr]
theorem StrsAt.new (w : World) (t : TypeId) (ps : List ByteArray) : StrsAt (w.alloc (.cells (ps.map Value.string).toArray t (0, 0))) w.heap.size 0 ps := by
  refine ⟨(LA.new w t (ps.map Value.string)).lt, fun i s hi => ?_⟩
  refine (LA.new w t (ps.map Value.string)).cell ?_
  rw [List.getElem?_map, Nat.zero_add, hi]
  rfl
def allBytes (ps : List ByteArray) : List Int := ps.flatMap bytesOf
def allSize (ps : List ByteArray) : Nat := (ps.map ByteArray.size).sum
theorem allBytes_length (ps : List ByteArray) : (allBytes ps).length = allSize ps := by
  induction ps with
  | nil => rfl
  | cons p ps ih => simp only [allBytes, allSize, List.flatMap_cons, List.map_cons, List.sum_cons, List.length_append, bytesOf_length] at *; rw [ih]
theorem allBytes_take (ps : List ByteArray) (n : Nat) (s : ByteArray) (h : ps[n]? = some s) : allBytes (ps.take (n + 1)) = allBytes (ps.take n) ++ bytesOf s := by
  rw [List.take_add_one, h]
  simp [allBytes]
theorem allSize_take (ps : List ByteArray) (n : Nat) (s : ByteArray) (h : ps[n]? = some s) : allSize (ps.take n) + s.size ≤ allSize ps := by
  have e : allSize ps = allSize (ps.take (n + 1)) + allSize (ps.drop (n + 1)) := by
    simp only [allSize, ← List.sum_append, ← List.map_append, List.take_append_drop]
  rw [e, List.take_add_one, h]
  simp only [allSize, List.map_append, List.sum_append, Option.toList_some, List.map_cons, List.map_nil, List.sum_cons, List.sum_nil]
  omega

set_option maxHeartbeats 4000000 in
set_option maxRecDepth 100000 in
theorem feed_calls (T : Nat) (v : Value) (f own a c o : Nat) (P : List Int → World → Prop) (ps : List ByteArray) (m : List Int) (w : World)
    (hm : ∀ w, (method 334 T v "loop.example/s02095/impl.take").run Tryd.prog w = .ok (f, v) w)
    (hcf : ∀ s w, (callFunc f #[v, .string s]).run Tryd.prog w = .ok (.enter f #[v, .string s]) w)
    (hs : ∀ l s w, P l w → l.length + s.size ≤ 1152921504606846976 → Calls Tryd.prog f #[v, .string s] w fun e w' => e = .returned (.tuple #[]) ∧ P (l ++ bytesOf s) w' ∧ w.grownBy w' (some own))
    (hps : StrsAt w a o ps) (hc : ps.length ≤ c) (hpl : ps.length ≤ 1000000) (hown : a ≠ own) (h : P m w) (hlen : m.length + allSize ps ≤ 1152921504606846976) :
    Calls Tryd.prog 128 #[.iface T v, .slice (some ⟨a, o, none⟩) ps.length c] w fun e w' => e = .returned (.tuple #[]) ∧ P (m ++ allBytes ps) w' ∧ w.grownBy w' (some own) := by
  have HS := Aside0.mk hs
  have H0 : Aside0 (P (m ++ allBytes (ps.take 0)) w) := ⟨by rw [List.take_zero]; exact (List.append_nil m).symm ▸ h⟩
  have HP := Aside0.mk hps
  have HL := Aside0.mk hlen
  have HM := Aside0.mk hm
  clear hs h hps hlen hm
  have hown' : some a ≠ some own := fun e => hown (Option.some.inj e)
  have HO := Aside0.mk hown'
  clear hown hown'
  go_enter Tryd.func128, Tryd.ntmps128
  go_wp2_with fail
  go_loopw [8] (fun v8 wr => ∃ n : Nat, n ≤ ps.length ∧ v8 = .int .i64 n ∧ Aside0 (P (m ++ allBytes (ps.take n)) wr) ∧ Aside0 (w.grownBy wr (some own))) (fun v8 _ => ps.length - (intOf v8).toNat)
  case atStart => exact ⟨0, by omega, rfl, H0, ⟨grownBy_refl w _⟩⟩
  case round =>
    clear H0
    obtain ⟨n, hn, rfl, HI, HB⟩ := hrel
    by_cases hlt : n < ps.length
    · have ht : decide ((n : Int) < (ps.length : Int)) = true := decide_eq_true (by omega)
      have hp : ps[n]? = some ps[n] := List.getElem?_eq_getElem hlt
      have hq := (HP.out.grown HB.out HO.out).2 n _ hp
      have hlt1 := (HP.out.grown HB.out HO.out).1
      have HQ := Aside0.mk hp
      generalize ps[n] = p at hq HQ
      clear hp
      have hM := HM.out
      have hwr : IntKind.i64.wrap ((n : Int) + 1) = ((n + 1 : Nat) : Int) := by rw [IntKind.wrap_i64]; omega
      have hwr' : wrap64 ((n : Int) + 1) = ((n + 1 : Nat) : Int) := by unfold wrap64; omega
      go_wp2_with fail
      refine (HS.out _ p _ HI.out ?_).mono ?_
      · rw [List.length_append, allBytes_length]
        have := allSize_take ps n p HQ.out
        have := HL.out
        omega
      rintro e w5 ⟨rfl, hI5, hb5⟩
      have HI5 : Aside0 (P (m ++ allBytes (ps.take (n + 1))) w5) := ⟨by rw [allBytes_take ps n p HQ.out, ← List.append_assoc]; exact hI5⟩
      have HB5 : Aside0 (w.grownBy w5 (some own)) := ⟨grownBy_trans HB.out hb5⟩
      clear hI5 hb5 HI HB
      go_wp2_with fail
      refine ⟨⟨n + 1, hlt, rfl, HI5, HB5⟩, ?_⟩
      clear HI5 HB5 HQ hq HP HM HS HL HO hM hcf hwr hwr' ht
      show ps.length - ((n : Int) + 1).toNat < ps.length - ((n : Int)).toNat
      omega
    · have hn8 : n = ps.length := by omega
      have ht : decide ((n : Int) < (ps.length : Int)) = false := decide_eq_false (by omega)
      have HI8 : Aside0 (P (m ++ allBytes ps) wr) := ⟨by have e := HI.out; rw [hn8, List.take_length] at e; exact e⟩
      clear hn8 HI
      go_wp2_with fail
      go_end0
      exact ⟨rfl, HI8.out, HB.out⟩
end Go.Proofs.YtfonhiakelmhhaaDoor.P
end
section
namespace Go.Proofs.YtfonhiakelmhhaaDoor.P
open Go.RowKit Go.Proofs.YtfonhiakelmhhaaDoorW.PrintWords Go.Proofs.YtfonhiakelmhhaaDoorW.PrintLast Go.Proofs.YtfonhiakelmhhaaDoorW.PrintMore
set_option linter.unusedVariables false
set_option linter.unusedSimpArgs false

theorem method_hash_take (b : Nat) (w : World) : (method 334 162 (.pointer (some ⟨b, 0, none⟩)) "loop.example/s02095/impl.take").run Tryd.prog w = .ok (155, .pointer (some ⟨b, 0, none⟩)) w := by kernel_rfl
theorem enter_hash_take (v : Value) (s : ByteArray) (w : World) : (callFunc 155 #[v, .string s]).run Tryd.prog w = .ok (.enter 155 #[v, .string s]) w := by kernel_rfl

theorem feed_hash (b a c o : Nat) (ps : List ByteArray) (m : List Int) (w : World)
    (hps : StrsAt w a o ps) (hc : ps.length ≤ c) (hpl : ps.length ≤ 1000000) (hown : a ≠ b) (h : HashIs w b m m.length) (hG : Glob w) (hlen : m.length + allSize ps ≤ 1152921504606846976) :
    Calls Tryd.prog 128 #[.iface 162 (.pointer (some ⟨b, 0, none⟩)), .slice (some ⟨a, o, none⟩) ps.length c] w fun e w' => e = .returned (.tuple #[]) ∧ (HashIs w' b (m ++ allBytes ps) (m ++ allBytes ps).length ∧ Glob w') ∧ w.grownBy w' (some b) := by
  refine feed_calls 162 (.pointer (some ⟨b, 0, none⟩)) 155 b a c o (fun l w => HashIs w b l l.length ∧ Glob w) ps m w (method_hash_take b) (enter_hash_take _) ?_ hps hc hpl hown ⟨h, hG⟩ hlen
  rintro l s w ⟨hI, hg⟩ hz
  refine (take_calls b l s w hI hg hz).mono ?_
  rintro e w' ⟨rfl, hI', hk⟩
  exact ⟨rfl, ⟨hI', hg.of_grown hk (glob_ne hI hg)⟩, hk⟩

set_option maxHeartbeats 4000000 in
set_option maxRecDepth 100000 in
theorem hashOf_calls (a c o : Nat) (ps : List ByteArray) (w : World)
    (hps : StrsAt w a o ps) (hc : ps.length ≤ c) (hpl : ps.length ≤ 1000000) (hG : Glob w) (hlen : allSize ps ≤ 576460752303423488) :
    Calls Tryd.prog 70 #[.slice (some ⟨a, o, none⟩) ps.length c] w fun e w' => e = .returned (.string (shaS (allBytes ps))) ∧ Below w.heap.size w w' := by
  have HP := Aside0.mk hps
  have HL := Aside0.mk hlen
  have HG := Aside0.mk hG
  clear hps hlen hG
  go_enter Tryd.func70, Tryd.ntmps70
  go_wp2_with fail
  refine (newHash_calls w).mono ?_
  rintro e w1 ⟨rfl, hI1, hb1⟩
  have HI := Aside0.mk hI1
  have HB1 := Aside0.mk hb1
  have HG1 : Aside0 (Glob w1) := ⟨HG.out.of_below hb1⟩
  have HP1 : Aside0 (StrsAt w1 a o ps) := ⟨HP.out.grown (grown_of_below hb1 none) (by simp)⟩
  have hne : a ≠ w.heap.size := by have := HP.out.1; omega
  have HN := Aside0.mk hne
  clear hI1 hb1 hne
  go_wp2_with fail
  refine (feed_hash w.heap.size a c o ps [] w1 HP1.out hc hpl HN.out HI.out HG1.out (by have := HL.out; simp only [List.length_nil]; omega)).mono ?_
  rintro e w2 ⟨rfl, ⟨hI2, hg2⟩, hk2⟩
  rw [List.nil_append] at hI2
  have HI2 := Aside0.mk hI2
  have HG2 := Aside0.mk hg2
  have HK2 := Aside0.mk hk2
  clear hI2 hg2 hk2 HI HG1 HP1 HN
  go_wp2_with fail
  refine (sum_calls w.heap.size (allBytes ps) w2 HI2.out HG2.out (by rw [allBytes_length]; exact HL.out)).mono ?_
  rintro e w3 ⟨rfl, hk3⟩
  have HK3 := Aside0.mk hk3
  clear hk3
  go_wp2_with fail
  go_ret
  exact ⟨rfl, Below.row (Below.row HB1.out (Nat.le_refl _) HK2.out) (Nat.le_refl _) HK3.out⟩

def impl_Sha256.f (a0 : ByteArray) : Option ByteArray := if a0.size ≤ 281474976710656 then some (shaS (bytesOf a0)) else none
theorem sha_some (a0 r : ByteArray) (h : impl_Sha256.f a0 = some r) : a0.size ≤ 281474976710656 ∧ r = shaS (bytesOf a0) := by
  unfold impl_Sha256.f at h
  split at h
  · exact ⟨by assumption, (Option.some.inj h).symm⟩
  · exact absurd h (by simp)

set_option maxHeartbeats 4000000 in
set_option maxRecDepth 100000 in
theorem impl_Sha256.calls (a0 : ByteArray) (r : ByteArray) (w : World) (h : impl_Sha256.f a0 = some r) (hG : Glob w) :
    Calls Tryd.prog 21 #[.string a0] w fun e w' => e = .returned (.string r) ∧ Below w.heap.size w w' := by
  obtain ⟨hz, rfl⟩ := sha_some a0 r h
  clear h
  have HZ := Aside0.mk hz
  have HG1 : Aside0 (Glob (w.alloc (.cells #[.string a0] 9 (0, 0)))) := ⟨hG.of_below ((Below.refl _ _).alloc (Nat.le_refl _) _)⟩
  have HB1 : Aside0 (Below w.heap.size w (w.alloc (.cells #[.string a0] 9 (0, 0)))) := ⟨(Below.refl _ _).alloc (Nat.le_refl _) _⟩
  have HP1 : Aside0 (StrsAt (w.alloc (.cells #[.string a0] 9 (0, 0))) w.heap.size 0 [a0]) := ⟨StrsAt.new w _ [a0]⟩
  clear hz hG
  go_enter Tryd.func21, Tryd.ntmps21
  go_wp2_with fail
  refine (hashOf_calls w.heap.size 1 0 [a0] _ HP1.out (Nat.le_refl _) (show (1 : Nat) ≤ 1000000 by omega) HG1.out (by have := HZ.out; simp only [allSize, List.map_cons, List.map_nil, List.sum_cons, List.sum_nil]; omega)).mono ?_
  rintro e w2 ⟨rfl, hb2⟩
  have HB2 : Aside0 (Below w.heap.size w w2) := ⟨below_step HB1.out hb2⟩
  clear hb2
  go_wp2_with fail
  go_ret
  exact ⟨by simp [allBytes], HB2.out⟩
end Go.Proofs.YtfonhiakelmhhaaDoor.P
end
section
namespace Go.Proofs.YtfonhiakelmhhaaDoor.P
open Go.RowKit Go.Proofs.YtfonhiakelmhhaaDoorW.PrintWords Go.Proofs.YtfonhiakelmhhaaDoorW.PrintLast Go.Proofs.YtfonhiakelmhhaaDoorW.PrintMore
set_option linter.unusedVariables false
set_option linter.unusedSimpArgs false
section
variable {P : Program}
theorem run_storeVar_list (w : World) (g : Nat) (ty t : TypeId) (L cs : List Value) (h : LA w g t L) (hs : (P.info? ty).map (·.size) = some cs.length) (hl : L.length = cs.length) (h1 : ∀ v ∈ cs, v.oneCell' = true) :
    (storeVar ty ⟨g, 0, none⟩ (.agg cs.toArray)).run P w = .ok () (w.setRow g cs.toArray) := by
  obtain ⟨i, hi, hsz⟩ := Option.map_eq_some_iff.1 hs
  have hst := run_storeCells_at P g 0 t cs 0 L.toArray w h (by simp only [List.size_toArray]; omega) h1
  simp only [Nat.zero_add, List.take_zero, List.nil_append] at hst
  rw [show List.drop cs.length L.toArray.toList = [] from List.drop_eq_nil_of_le (by simp; omega), List.append_nil] at hst
  simp [storeVar, Sem.run_bind, sizeOf, typeInfo, hi, hsz, Value.cells, hst]
theorem wpList_store_list {ops : Array Oper} {rest : List Oper} {op : Oper} {a : Act} {w : World} {Q : Exit → Act → World → Prop} (hgd : op.guard = none) (ty : TypeId) (x v : Operand) (ho : op.op = .store ty x v)
    (g : Nat) (hx : a.eval x = .pointer (some ⟨g, 0, none⟩)) (t : TypeId) (L cs : List Value) (hv : a.eval v = .agg cs.toArray) (h : LA w g t L) (hs : (P.info? ty).map (·.size) = some cs.length) (hl : L.length = cs.length) (h1 : ∀ v ∈ cs, v.oneCell' = true)
    (k : wpList P ops Q rest (a.put op.dst undef) (w.setRow g cs.toArray)) : wpList P ops Q (op :: rest) a w := by
  refine wpList_plain hgd fun K hK => ?_
  unfold Oper.wp execOp
  simp only [ho, hx, hv, Instr.storeAt, Instr.sureAddr, Sem.run_bind, Sem.run_pure, Result.andThen_ok, run_storeVar_list w g ty t L cs h hs hl h1]
  exact hK _ _ k
end
def keyL (key : ByteArray) : List Int := if 64 < key.size then shaNums (bytesOf key) else bytesOf key
def keyPad (key : ByteArray) : List Int := keyL key ++ List.replicate (64 - (keyL key).length) 0
def padX (key : ByteArray) (c : Int) : List Int := (keyPad key).map fun x => Go.bits .xor .u8 x c

structure KeyedIs (w : World) (k bi bo : Nat) (mi mo : List Int) : Prop where
  own : w.heap[k]? = some (.cells #[.pointer (some ⟨bi, 0, none⟩), .pointer (some ⟨bo, 0, none⟩)] 190 (0, 0))
  inner : HashIs w bi mi mi.length
  outer : HashIs w bo mo mo.length
  ne1 : bi ≠ bo
  ne2 : k ≠ bi
  ne3 : k ≠ bo
theorem KeyedIs.lt {w : World} {k bi bo : Nat} {mi mo : List Int} (h : KeyedIs w k bi bo mi mo) : k < w.heap.size := by
  rcases Nat.lt_or_ge k w.heap.size with h' | h'
  · exact h'
  · have e := h.own; simp [Array.getElem?_eq_none h'] at e

set_option maxHeartbeats 4000000 in
set_option maxRecDepth 100000 in
theorem keyedTake_calls (k bi bo : Nat) (mi mo : List Int) (s : ByteArray) (w : World) (h : KeyedIs w k bi bo mi mo) (hG : Glob w) (hlen : mi.length + s.size ≤ 1152921504606846976) :
    Calls Tryd.prog 209 #[.pointer (some ⟨k, 0, none⟩), .string s] w fun e w' => e = .returned (.tuple #[]) ∧ (KeyedIs w' k bi bo (mi ++ bytesOf s) mo ∧ Glob w') ∧ w.grownBy w' (some bi) := by
  have HK := Aside0.mk h
  have HG := Aside0.mk hG
  have HL := Aside0.mk hlen
  have q0 : w.cell? ⟨k, 0, none⟩ = some (.pointer (some ⟨bi, 0, none⟩)) := by simp only [World.cell?, h.own]; rfl
  clear h hG hlen
  go_enter Tryd.func209, Tryd.ntmps209
  go_wp2_with fail
  refine (take_calls bi mi s _ HK.out.inner HG.out HL.out).mono ?_
  rintro e w' ⟨rfl, hI, hk⟩
  go_wp2_with fail
  go_end0
  have h := HK.out
  refine ⟨rfl, ⟨⟨(hk.block k h.lt (by intro e; injection e with e; exact h.ne2 e)).trans h.own, hI, h.outer.keep (hk.block bo h.outer.lt (by intro e; injection e with e; exact h.ne1 e.symm)), h.ne1, h.ne2, h.ne3⟩, HG.out.of_grown hk (glob_ne h.inner HG.out)⟩, hk⟩

theorem method_keyed_take (b : Nat) (w : World) : (method 334 167 (.pointer (some ⟨b, 0, none⟩)) "loop.example/s02095/impl.take").run Tryd.prog w = .ok (209, .pointer (some ⟨b, 0, none⟩)) w := by kernel_rfl
theorem enter_keyed_take (v : Value) (s : ByteArray) (w : World) : (callFunc 209 #[v, .string s]).run Tryd.prog w = .ok (.enter 209 #[v, .string s]) w := by kernel_rfl
theorem feed_keyed (k bi bo a c o : Nat) (ps : List ByteArray) (mi mo : List Int) (w : World)
    (hps : StrsAt w a o ps) (hc : ps.length ≤ c) (hpl : ps.length ≤ 1000000) (hown : a ≠ bi) (h : KeyedIs w k bi bo mi mo) (hG : Glob w) (hlen : mi.length + allSize ps ≤ 1152921504606846976) :
    Calls Tryd.prog 128 #[.iface 167 (.pointer (some ⟨k, 0, none⟩)), .slice (some ⟨a, o, none⟩) ps.length c] w fun e w' => e = .returned (.tuple #[]) ∧ (KeyedIs w' k bi bo (mi ++ allBytes ps) mo ∧ Glob w') ∧ w.grownBy w' (some bi) := by
  refine feed_calls 167 (.pointer (some ⟨k, 0, none⟩)) 209 bi a c o (fun l w => KeyedIs w k bi bo l mo ∧ Glob w) ps mi w (method_keyed_take k) (enter_keyed_take _) ?_ hps hc hpl hown ⟨h, hG⟩ hlen
  rintro l s w ⟨hI, hg⟩ hz
  exact keyedTake_calls k bi bo l mo s w hI hg hz

theorem grown_from_drew {w w1 : World} {row : Option Nat} (h : w.drew.grownBy w1 row) : w.grownBy w1 row := ⟨h.os, h.tape, h.output, h.size, h.block⟩
theorem ne_some {a b : Nat} (h : a ≠ b) : some b ≠ some a := fun e => h (Option.some.inj e).symm
theorem q1_of {w w1 : World} {k bi bo : Nat} {mi mo : List Int} (q1 : w.cell? ⟨k, 1, none⟩ = some (.pointer (some ⟨bo, 0, none⟩))) (h : KeyedIs w k bi bo mi mo) (hk : w.grownBy w1 (some bi)) : w1.cell? ⟨k, 1, none⟩ = some (.pointer (some ⟨bo, 0, none⟩)) := by
  rw [← q1]
  simp only [World.cell?]
  rw [hk.block k h.lt (by intro e; injection e with e; exact h.ne2 e)]
theorem grown_none {w w' : World} {b B : Nat} (h : w.grownBy w' (some b)) (hB : B ≤ b) (hw : B ≤ w.heap.size) : Below B w w' :=
  ⟨h.os, h.tape, h.output, h.size, fun i hi => h.block i (by omega) (by intro e; injection e; omega)⟩
theorem keyed_mid {w w1 w2 : World} {k bi bo : Nat} {mi mo : List Int} (h : KeyedIs w k bi bo mi mo) (hg : Glob w) (hk1 : w.grownBy w1 (some bi)) (hk2 : w1.grownBy w2 (some bo)) :
    w2.cell? ⟨k, 1, none⟩ = some (.pointer (some ⟨bo, 0, none⟩)) ∧ Glob w2 ∧ ∀ B, B ≤ bi → B ≤ bo → B ≤ w.heap.size → Below B w w2 := by
  have hs := hk1.size
  have e1 : w1.heap[k]? = w.heap[k]? := hk1.block k h.lt (by intro e; injection e with e; exact h.ne2 e)
  have e2 : w2.heap[k]? = w.heap[k]? := (hk2.block k (Nat.lt_of_lt_of_le h.lt hs) (by intro e; injection e with e; exact h.ne3 e)).trans e1
  have hg1 : Glob w1 := hg.of_grown hk1 (glob_ne h.inner hg)
  have ho1 : HashIs w1 bo mo mo.length := h.outer.keep (hk1.block bo h.outer.lt (by intro e; injection e with e; exact h.ne1 e.symm))
  refine ⟨by simp only [World.cell?, e2, h.own]; rfl, hg1.of_grown hk2 (glob_ne ho1 hg1), fun B h1 h2 h3 => (grown_none hk1 h1 h3).trans (grown_none hk2 h2 (Nat.le_trans h3 hs))⟩
theorem be32s_length (l : List Int) : (l.flatMap be32).length = 4 * l.length := by
  induction l with
  | nil => rfl
  | cons x l ih => simp only [List.flatMap_cons, List.length_append, ih, List.length_cons]; show 4 + _ = _; omega
theorem shaNums_length (m : List Int) : (shaNums m).length = 32 := by
  unfold shaNums
  rw [be32s_length]
  rfl
theorem shaS_size (m : List Int) : (shaS m).size = 32 := by unfold shaS; rw [strOfNums_size, shaNums_length]
theorem bytes_shaNums (m : List Int) : Bytes (shaNums m) := by
  unfold shaNums
  intro x hx
  obtain ⟨y, _, hy⟩ := List.mem_flatMap.1 hx
  simp only [be32, List.mem_cons, List.not_mem_nil, or_false] at hy
  rcases hy with rfl | rfl | rfl | rfl <;> omega
theorem bytesOf_shaS (m : List Int) : bytesOf (shaS m) = shaNums m := bytesOf_strOfNums _ (bytes_shaNums m)
set_option maxHeartbeats 4000000 in
set_option maxRecDepth 100000 in
theorem keyedSum_calls (k bi bo : Nat) (mi mo : List Int) (w : World) (h : KeyedIs w k bi bo mi mo) (hG : Glob w) (hl1 : mi.length ≤ 576460752303423488) (hl2 : mo.length ≤ 576460752303423) :
    Calls Tryd.prog 133 #[.pointer (some ⟨k, 0, none⟩)] w fun e w' => e = .returned (.string (shaS (mo ++ bytesOf (shaS mi)))) ∧ ∀ B, B ≤ bi → B ≤ bo → B ≤ w.heap.size → Below B w w' := by
  have HK := Aside0.mk h
  have HG := Aside0.mk hG
  have q0 : w.cell? ⟨k, 0, none⟩ = some (.pointer (some ⟨bi, 0, none⟩)) := by simp only [World.cell?, h.own]; rfl
  have q1 : w.cell? ⟨k, 1, none⟩ = some (.pointer (some ⟨bo, 0, none⟩)) := by simp only [World.cell?, h.own]; rfl
  clear h hG
  go_enter Tryd.func133, Tryd.ntmps133
  go_wp2_with fail
  go_cut [2] from 3 to 12 (fun v2 wx => v2 = .string ⟨#[]⟩ ∧ Aside0 (wx.cell? ⟨k, 1, none⟩ = some (.pointer (some ⟨bo, 0, none⟩))) ∧ Aside0 (HashIs wx bo (mo ++ bytesOf (shaS mi)) (mo ++ bytesOf (shaS mi)).length) ∧ Aside0 (Glob wx) ∧ Aside0 (∀ B, B ≤ bi → B ≤ bo → B ≤ w.heap.size → Below B w wx))
  case first =>
    go_region_with (first
      | (go_at_call 129; go_loud (refine (sum_calls bi mi _ ?_ ?_ hl1).mono ?_; exact HK.out.inner.keep rfl; exact (show Glob w from HG.out); rintro e w1 ⟨rfl, hk1⟩; have HK1 := Aside0.mk (grown_from_drew hk1); have q1' : w1.cell? ⟨k, 1, none⟩ = some (.pointer (some ⟨bo, 0, none⟩)) := q1_of q1 HK.out HK1.out; clear hk1))
      | (go_at_call 155; go_loud (refine (take_calls bo mo (shaS mi) _ ?_ ?_ ?_).mono ?_; exact HK.out.outer.keep (HK1.out.block bo HK.out.outer.lt (ne_some HK.out.ne1)); exact HG.out.of_grown HK1.out (glob_ne HK.out.inner HG.out); exact (by rw [shaS_size]; omega); rintro e w2 ⟨rfl, hI2, hk2⟩; have HM := Aside0.mk (keyed_mid HK.out HG.out HK1.out hk2); have HI2 := Aside0.mk hI2; clear hI2 hk2)))
    all_goals (go_wp2_with fail; go_meet; exact ⟨rfl, ⟨HM.out.1⟩, HI2, ⟨HM.out.2.1⟩, ⟨HM.out.2.2⟩⟩)
  case rest =>
    obtain ⟨rfl, HQ, HI, HG2, HB⟩ := hcut
    have q := HQ.out
    go_wp2_with fail
    refine (sum_calls bo _ _ HI.out HG2.out (by rw [List.length_append, bytesOf_length, shaS_size]; omega)).mono ?_
    rintro e w3 ⟨rfl, hk3⟩
    go_wp2_with fail
    go_ret
    exact ⟨rfl, fun B h1 h2 h3 => (HB.out B h1 h2 h3).trans (grown_none hk3 h2 (Nat.le_trans h3 (HB.out B h1 h2 h3).size))⟩
end Go.Proofs.YtfonhiakelmhhaaDoor.P
end
section
namespace Go.Proofs.YtfonhiakelmhhaaDoor.P
open Go.RowKit Go.Proofs.YtfonhiakelmhhaaDoorW.PrintWords Go.Proofs.YtfonhiakelmhhaaDoorW.PrintLast Go.Proofs.YtfonhiakelmhhaaDoorW.PrintMore
set_option linter.unusedVariables false
set_option linter.unusedSimpArgs false
theorem size131 : (Tryd.prog.info? 183).map (·.size) = some 64 := by kernel_rfl

theorem newHash_any (w : World) : Calls Tryd.prog 127 #[] w fun e w' => e = .returned (.pointer (some ⟨w.heap.size, 0, none⟩)) ∧ (HashIs w' w.heap.size [] 0 ∧ w.heap.size < w'.heap.size) ∧ Below w.heap.size w w' :=
  (newHash_calls w).mono fun e w' ⟨h1, h2, h3⟩ => ⟨h1, ⟨h2, h2.lt⟩, h3⟩

def newThree (w : World) (bi bo : Nat) : World :=
  ((w.alloc (.cells #[.pointer (some ⟨bi, 0, none⟩), .pointer (some ⟨bo, 0, none⟩)] 190 (0, 0))).alloc (.cells (List.replicate 64 (Value.int .u8 0)).toArray 183 (0, 0))).alloc (.cells (List.replicate 64 (Value.int .u8 0)).toArray 183 (0, 0))
theorem newThree_facts (w : World) (bi bo : Nat) :
    LA (newThree w bi bo) w.heap.size 190 [.pointer (some ⟨bi, 0, none⟩), .pointer (some ⟨bo, 0, none⟩)] ∧
    LA (newThree w bi bo) (w.heap.size + 1) 183 (List.replicate 64 (.int .u8 0)) ∧
    LA (newThree w bi bo) (w.heap.size + 1 + 1) 183 (List.replicate 64 (.int .u8 0)) ∧ Below w.heap.size w (newThree w bi bo) := by
  have hA1 := LA.new w 190 [.pointer (some ⟨bi, 0, none⟩), .pointer (some ⟨bo, 0, none⟩)]
  have hA2 := LA.new (w.alloc (.cells #[.pointer (some ⟨bi, 0, none⟩), .pointer (some ⟨bo, 0, none⟩)] 190 (0, 0))) 183 (List.replicate 64 (.int .u8 0))
  have hA3 := LA.new ((w.alloc (.cells #[.pointer (some ⟨bi, 0, none⟩), .pointer (some ⟨bo, 0, none⟩)] 190 (0, 0))).alloc (.cells (List.replicate 64 (Value.int .u8 0)).toArray 183 (0, 0))) 183 (List.replicate 64 (.int .u8 0))
  rw [World.size_alloc] at hA2
  rw [World.size_alloc, World.size_alloc] at hA3
  exact ⟨(hA1.alloc _).alloc _, hA2.alloc _, hA3, (((Below.refl _ _).alloc (Nat.le_refl _) _).alloc (by rw [World.size_alloc]; omega) _).alloc (by rw [World.size_alloc, World.size_alloc]; omega) _⟩

def keyN (l : List Int) (c : Int) (n : Nat) : List Int := (l.take n).map (fun x => Go.bits .xor .u8 x c) ++ l.drop n
def keyM (l : List Int) (c : Int) (n : Nat) : List Value := (keyN l c n).map (Value.int .u8)
theorem keyM_zero (l : List Int) (c : Int) : keyM l c 0 = l.map (Value.int .u8) := by simp [keyM, keyN]
theorem keyN_all (l : List Int) (c : Int) (n : Nat) (h : l.length ≤ n) : keyN l c n = l.map (fun x => Go.bits .xor .u8 x c) := by simp [keyN, List.take_of_length_le h, List.drop_of_length_le h]
theorem keyM_get (l : List Int) (c : Int) (n : Nat) (h : n < l.length) : (keyM l c n)[n]? = some (.int .u8 (l.getD n 0)) := by
  unfold keyM keyN
  rw [List.getElem?_map, List.getElem?_append_right (by simp; omega)]
  simp only [List.length_map, List.length_take, Nat.min_eq_left (Nat.le_of_lt h), Nat.sub_self, List.getElem?_drop, Nat.add_zero]
  rw [List.getD_eq_getElem?_getD, List.getElem?_eq_getElem h]
  rfl
theorem keyM_set (l : List Int) (c : Int) (n : Nat) (h : n < l.length) : (keyM l c n).set n (.int .u8 (Go.bits .xor .u8 (l.getD n 0) c)) = keyM l c (n + 1) := by
  unfold keyM keyN
  have e1 : l.drop n = l[n] :: l.drop (n + 1) := List.drop_eq_getElem_cons h
  have e2 : l.take (n + 1) = l.take n ++ [l[n]] := by rw [List.take_add_one, List.getElem?_eq_getElem h]; rfl
  have e3 : l.getD n 0 = l[n] := by rw [List.getD_eq_getElem?_getD, List.getElem?_eq_getElem h]; rfl
  rw [e1, e2, e3]
  simp only [List.map_append, List.map_cons, List.map_nil, List.append_assoc, List.cons_append, List.nil_append]
  rw [List.set_append_right _ _ (by simp; omega)]
  simp [Nat.min_eq_left (Nat.le_of_lt h)]
theorem below_set_row {w2 w3 w4 : World} {B k1 k2 : Nat} (h3 : Below B w2 w3) (h4 : w3.grownBy w4 (some k1)) (h1 : B ≤ k1) (h2 : B ≤ k2) (hB : B ≤ w2.heap.size) (c : Array Value) : Below B w2 (w4.setRow k2 c) :=
  ⟨h4.os.trans h3.os, h4.tape.trans h3.tape, h4.output.trans h3.output, Nat.le_trans h3.size (by have := h4.size; simp [World.setRow]; exact this), fun i hi =>
    (setRow_other w4 k2 i c (by omega)).trans ((h4.block i (by have := h3.size; omega) (by intro e; injection e; omega)).trans (h3.block i hi))⟩
theorem conv_arr {t : TypeId} (w : World) (g n : Nat) (xs : List Int) (hl : xs.length = n) (h : LA w g t (xs.map (Value.int .u8))) :
    (convert 40 9 (.slice (some ⟨g, 0, none⟩) n n)).run Tryd.prog w = .ok (.string (strOfNums xs)) w := by
  refine run_convert_bytes_arg w _ _ Tryd.underlying40 Tryd.underlying5 g 0 n n xs hl (fun i hi => ?_) _ Tryd.underlying9
  rw [Nat.zero_add]
  refine h.cell ?_
  rw [List.getElem?_map, List.getD_eq_getElem?_getD, List.getElem?_eq_getElem (by omega)]
  rfl
theorem bytes_keyPad (key : ByteArray) : Bytes (keyPad key) := by
  unfold keyPad keyL
  refine Bytes.append ?_ ?_
  · split
    · exact bytes_shaNums _
    · exact bytes_bytesOf _
  · intro x hx
    obtain rfl := List.eq_of_mem_replicate hx
    omega
theorem bytes_padX (key : ByteArray) (c : Int) (h0 : 0 ≤ c) (h1 : c < 256) : Bytes (padX key c) := by
  intro x hx
  obtain ⟨y, hy, rfl⟩ := List.mem_map.1 hx
  obtain ⟨h2, h3⟩ := bytes_keyPad key y hy
  rw [u8_xor y c h2 h3 h0 h1]
  have : y.toNat ^^^ c.toNat < 2 ^ 8 := Nat.xor_lt_two_pow (by omega) (by omega)
  omega
set_option maxHeartbeats 4000000 in
set_option maxRecDepth 100000 in
theorem newKeyed_calls (key : ByteArray) (w : World) (hG : Glob w) (hlen : key.size ≤ 281474976710656) :
    Calls Tryd.prog 132 #[.string key] w fun e w' => ∃ k bi bo, e = .returned (.pointer (some ⟨k, 0, none⟩)) ∧ (KeyedIs w' k bi bo (padX key 54) (padX key 92) ∧ w.heap.size ≤ k ∧ w.heap.size ≤ bi ∧ w.heap.size ≤ bo) ∧ Below w.heap.size w w' := by
  have HG := Aside0.mk hG
  have HL := Aside0.mk hlen
  clear hG hlen
  go_enter Tryd.func132, Tryd.ntmps132
  go_upto_if 9 with fail

  go_cut [0] from 7 to 11 (fun v0 wx => ∃ s, v0 = .string s ∧ Aside0 (bytesOf s = keyL key) ∧ Aside0 (s.size ≤ 64) ∧ Aside0 (Glob wx) ∧ Aside0 (Below w.heap.size w wx))
  case first =>
    by_cases hk : (64 : Int) < (key.size : Int)
    · have ht : decide ((64 : Int) < (key.size : Int)) = true := decide_eq_true hk
      go_wp2_with fail
      refine (impl_Sha256.calls key _ w (if_pos HL.out) HG.out).mono ?_
      rintro e w1 ⟨rfl, hb1⟩
      go_wp2_with fail
      go_meet
      exact ⟨_, rfl, ⟨by rw [bytesOf_shaS]; unfold keyL; rw [if_pos (by omega)]⟩, ⟨by rw [shaS_size]; omega⟩, ⟨HG.out.of_below hb1⟩, ⟨hb1⟩⟩
    · have ht : decide ((64 : Int) < (key.size : Int)) = false := decide_eq_false hk
      go_wp2_with fail
      go_meet
      exact ⟨_, rfl, ⟨by unfold keyL; rw [if_neg (by omega)]⟩, ⟨by omega⟩, HG, ⟨Below.refl _ _⟩⟩
  case rest =>
    obtain ⟨s, rfl, HS, HZ, HG1, HB1⟩ := hcut
    clear HG HL
    go_wp2_with fail
    refine (newHash_any wc).mono ?_
    rintro e w1 ⟨rfl, ⟨hI1, hl1⟩, hb1⟩
    go_wp2_with fail
    refine (newHash_any w1).mono ?_
    rintro e w2 ⟨rfl, ⟨hI2, hl2⟩, hb2⟩
    obtain ⟨bi, hbi⟩ : ∃ bi, bi = wc.heap.size := ⟨_, rfl⟩
    obtain ⟨bo, hbo⟩ : ∃ bo, bo = w1.heap.size := ⟨_, rfl⟩
    rw [← hbi] at hI1 hl1 ⊢
    rw [← hbo] at hI2 hl2 ⊢
    have HI1 : Aside0 (HashIs w2 bi [] 0) := ⟨hI1.keep (hb2.block bi hl1)⟩
    have HI2 := Aside0.mk hI2
    have HBB := Aside0.mk (show wc.heap.size ≤ bi ∧ bi < bo ∧ bo < w2.heap.size by omega)
    have HB2 : Aside0 (Below w.heap.size w w2) := ⟨below_step (below_step HB1.out hb1) hb2⟩
    have HWC : Aside0 (w.heap.size ≤ wc.heap.size) := ⟨HB1.out.size⟩
    have HG2 : Aside0 (Glob w2) := ⟨(HG1.out.of_below hb1).of_below hb2⟩
    clear hI1 hl1 hb1 hI2 hl2 hb2 HB1 HG1
    clear hbi hbo
    go_upto_region 5 with fail
    change Code.wp _ _ _ _ (newThree w2 bi bo)
    have hT := newThree_facts w2 bi bo
    generalize newThree w2 bi bo = w3 at hT ⊢
    obtain ⟨hA1, hA2, hA3, hB3⟩ := hT
    obtain ⟨k, hk⟩ : ∃ k, w2.heap.size = k := ⟨_, rfl⟩
    rw [hk] at hA1 hA2 hA3 ⊢
    have HKK := Aside0.mk hk
    have HA1 := Aside0.mk hA1
    have HA3 := Aside0.mk hA3
    have HB3 := Aside0.mk hB3
    clear hk hA1 hA3 hB3
    obtain ⟨w4, hcp, hA2', hK4⟩ := run_copy_str (P := Tryd.prog) w3 (k + 1) 0 64 64 183 40 9 3 5 _ s hA2 Tryd.underlying40 (by kernel_rfl) (by simp)
    have hz : s.size ≤ 64 := HZ.out
    rw [show Nat.min s.size 64 = s.size from Nat.min_eq_left hz] at hA2'
    have hA2L : LA w4 (k + 1) 183 ((keyPad key).map (Value.int .u8)) := by
      have e : List.take 0 (List.replicate 64 (Value.int IntKind.u8 0)) ++ List.map (Value.int IntKind.u8) (List.take s.size (bytesOf s)) ++ List.drop (0 + s.size) (List.replicate 64 (Value.int IntKind.u8 0)) = (keyPad key).map (Value.int .u8) := by
        unfold keyPad
        rw [← HS.out, (show List.take s.size (bytesOf s) = bytesOf s from List.take_of_length_le (by rw [bytesOf_length]; exact Nat.le_refl _)), List.take_zero, List.nil_append, List.map_append, List.drop_replicate, List.map_replicate, bytesOf_length, Nat.zero_add]
      exact e ▸ hA2'
    have hpl : (keyPad key).length = 64 := by
      unfold keyPad
      rw [List.length_append, List.length_replicate, ← HS.out, bytesOf_length]
      omega
    have HPL := Aside0.mk hpl
    have HA2 := Aside0.mk hA2L
    have HA1' : Aside0 (LA w4 k 190 [.pointer (some ⟨bi, 0, none⟩), .pointer (some ⟨bo, 0, none⟩)]) := ⟨HA1.out.grown hK4 (by intro e; injection e; omega)⟩
    have HA3' : Aside0 (LA w4 (k + 1 + 1) 183 (List.replicate 64 (.int .u8 0))) := ⟨HA3.out.grown hK4 (by intro e; injection e; omega)⟩
    have HK4 := Aside0.mk hK4
    clear hA2L hA2 hA2' hpl HA1 HA3 hK4 hz
    have hKL : ((keyPad key).map (Value.int .u8)).length = 64 := by rw [List.length_map, HPL.out]
    have HKL := Aside0.mk hKL
    clear hKL
    have hsk : (Tryd.prog.info? 183).map (·.size) = some ((keyPad key).map (Value.int .u8)).length := by rw [HKL.out]; exact size131
    have HSK := Aside0.mk hsk
    clear hsk
    generalize hkl : (keyPad key).map (Value.int .u8) = KL at HKL HSK HA2
    have HKE := Aside0.mk hkl
    clear hkl
    go_wp2_with ((with_reducible refine gate_dst (N := 19) rfl ?_); refine wpList_load_cells rfl 183 (.tmp 4) rfl (k + 1) 0 rfl KL _ (fun j v hv => ?_) Tryd.underlying183 rfl HSK.out ?_; (focus (rw [Nat.zero_add]; exact HA2.out.cell hv)); refine wpList_store_list rfl 183 (.tmp 5) (.tmp 19) rfl (k + 1 + 1) rfl 183 (List.replicate 64 (.int .u8 0)) KL rfl HA3'.out HSK.out ?_ ?_ ?_; (focus (rw [HKL.out]; rfl)); (focus (rw [← HKE.out]; intro v hv; obtain ⟨x, _, rfl⟩ := List.mem_map.1 hv; rfl)))
    have hA25 : LA (w4.setRow (k + 1 + 1) KL.toArray) (k + 1) 183 KL := (setRow_other w4 (k + 1 + 1) (k + 1) _ (by omega)).trans HA2.out
    have hA35 : LA (w4.setRow (k + 1 + 1) KL.toArray) (k + 1 + 1) 183 KL := setRow_heap w4 _ _ _ _ _ HA3'.out
    have hA15 : LA (w4.setRow (k + 1 + 1) KL.toArray) k 190 [.pointer (some ⟨bi, 0, none⟩), .pointer (some ⟨bo, 0, none⟩)] := (setRow_other w4 (k + 1 + 1) k _ (by omega)).trans HA1'.out
    have hB5 : Below w2.heap.size w2 (w4.setRow (k + 1 + 1) KL.toArray) := below_set_row HB3.out HK4.out (by have := HKK.out; omega) (by have := HKK.out; omega) (Nat.le_refl _) _
    rw [HKK.out] at hB5
    generalize w4.setRow (k + 1 + 1) KL.toArray = w5 at hA25 hA35 hA15 hB5 ⊢
    have HA15 := Aside0.mk hA15
    have HB5 := Aside0.mk hB5
    have HM1 : Aside0 (LA w5 (k + 1) 183 (keyM (keyPad key) 54 0)) := ⟨by rw [keyM_zero, HKE.out]; exact hA25⟩
    have HM2 : Aside0 (LA w5 (k + 1 + 1) 183 (keyM (keyPad key) 92 0)) := ⟨by rw [keyM_zero, HKE.out]; exact hA35⟩
    clear hA25 hA35 hA15 hB5 HA2 HA3' HA1' HK4 HB3 HKE HKL HSK
    go_loopw [6, 20] (fun v6 v20 wr => ∃ n : Nat, n ≤ 64 ∧ v20 = .int .i64 n ∧ Aside0 (LA wr (k + 1) 183 (keyM (keyPad key) 54 n)) ∧ Aside0 (LA wr (k + 1 + 1) 183 (keyM (keyPad key) 92 n)) ∧ Aside0 (LA wr k 190 [.pointer (some ⟨bi, 0, none⟩), .pointer (some ⟨bo, 0, none⟩)]) ∧ Aside0 (Below k w2 wr)) (fun _ v20 _ => 64 - (intOf v20).toNat)
    case atStart => exact ⟨0, by omega, rfl, HM1, HM2, HA15, HB5⟩
    case round =>
      clear HM1 HM2 HA15 HB5
      obtain ⟨n, hn, rfl, HM1, HM2, HA1, HB⟩ := hrel
      by_cases hlt : n < 64
      · have ht : decide ((n : Int) < 64) = true := decide_eq_true (by omega)
        have h1 := HM1.out.cell (keyM_get (keyPad key) 54 n (by rw [HPL.out]; exact hlt))
        have f1 := HM1.out.free n
        have h2 := HM2.out.cell (keyM_get (keyPad key) 92 n (by rw [HPL.out]; exact hlt))
        have h2' : (wr.setCell ⟨k + 1, n, none⟩ (.int .u8 (Go.bits .xor .u8 ((keyPad key).getD n 0) 54))).cell? ⟨k + 1 + 1, n, none⟩ = some (.int .u8 ((keyPad key).getD n 0)) := (HM2.out.other _ (by show k + 1 ≠ k + 1 + 1; omega) _).cell (keyM_get (keyPad key) 92 n (by rw [HPL.out]; exact hlt))
        have f2 := HM2.out.free n
        go_wp2_with fail
        have e0 : (keyPad key)[n]?.getD 0 = (keyPad key).getD n 0 := (List.getD_eq_getElem?_getD ..).symm
        rw [e0]
        have hnl : n < (keyPad key).length := by rw [HPL.out]; exact hlt
        refine ⟨⟨n + 1, hlt, rfl, ⟨?_⟩, ⟨?_⟩, ⟨?_⟩, ⟨?_⟩⟩, ?_⟩
        · rw [← keyM_set _ _ _ hnl]
          exact (HM1.out.set n _).other _ (by show k + 1 + 1 ≠ k + 1; omega) _
        · rw [← keyM_set _ _ _ hnl]
          exact (HM2.out.other _ (by show k + 1 ≠ k + 1 + 1; omega) _).set n _
        · exact (HA1.out.other _ (by show k + 1 ≠ k; omega) _).other _ (by show k + 1 + 1 ≠ k; omega) _
        · exact (HB.out.setCell (by show k ≤ k + 1; omega) _).setCell (by show k ≤ k + 1 + 1; omega) _
        · show 64 - ((n : Int) + 1).toNat < 64 - ((n : Int)).toNat
          clear h1 h2 h2' f1 f2 HM1 HM2 HA1 HB
          omega
      · have hn8 : n = 64 := by omega
        have ht : decide ((n : Int) < 64) = false := decide_eq_false (by omega)
        subst hn8
        have HM1' : Aside0 (LA wr (k + 1) 183 ((padX key 54).map (Value.int .u8))) := ⟨by have e := HM1.out; rw [keyM, keyN_all _ _ _ (by rw [HPL.out]; omega)] at e; exact e⟩
        have HM2' : Aside0 (LA wr (k + 1 + 1) 183 ((padX key 92).map (Value.int .u8))) := ⟨by have e := HM2.out; rw [keyM, keyN_all _ _ _ (by rw [HPL.out]; omega)] at e; exact e⟩
        clear HM1 HM2 hn ht hlt
        have q0 := HA1.out.cell (i := 0) (v := .pointer (some ⟨bi, 0, none⟩)) rfl
        have q1 := HA1.out.cell (i := 1) (v := .pointer (some ⟨bo, 0, none⟩)) rfl
        have hcv : ∀ W : World, LA W (k + 1) 183 ((padX key 54).map (Value.int .u8)) → (convert 40 9 (.slice (some ⟨k + 1, 0, none⟩) 64 64)).run Tryd.prog W = .ok (.string (strOfNums (padX key 54))) W := fun W hW =>
          conv_arr W (k + 1) 64 (padX key 54) (by rw [padX, List.length_map, HPL.out]) hW
        have hcv1 := hcv wr.drew HM1'.out
        have hcv2 := hcv { heap := wr.heap, tape := wr.tape, drawn := wr.drawn + 1, os := wr.os, output := wr.output } HM1'.out
        clear hcv
        go_wp2_with fail
        go_still_tail 6, (by kernel_rfl)
        change wpList _ _ _ _ _ wr.drew
        have hm1 : bytesOf (strOfNums (padX key 54)) = padX key 54 := bytesOf_strOfNums _ (bytes_padX key 54 (by decide) (by decide))
        have hz1 : (strOfNums (padX key 54)).size = 64 := by rw [strOfNums_size, padX, List.length_map, HPL.out]
        have HS1 := Aside0.mk hm1
        have HZ1 := Aside0.mk hz1
        clear hm1 hz1
        generalize strOfNums (padX key 54) = s1 at HS1 HZ1 ⊢
        have hkk := HKK.out
        have hbb := HBB.out
        have HD1 : Aside0 (HashIs wr.drew bi [] 0) := ⟨HI1.out.keep (HB.out.drew.block bi (by omega))⟩
        have HDG : Aside0 (Glob wr.drew) := ⟨HG2.out.of_below (hkk ▸ HB.out.drew)⟩
        have HD2 : Aside0 (HashIs wr.drew bo [] 0) := ⟨HI2.out.keep (HB.out.drew.block bo (by omega))⟩
        have HDA : Aside0 (LA wr.drew k 190 [.pointer (some ⟨bi, 0, none⟩), .pointer (some ⟨bo, 0, none⟩)]) := ⟨HA1.out⟩
        have HDM : Aside0 (LA wr.drew (k + 1 + 1) 183 ((padX key 92).map (Value.int .u8))) := ⟨HM2'.out⟩
        have HDB : Aside0 (Below k w2 wr.drew) := ⟨HB.out.drew⟩
        clear hcv1 hcv2 HM1' HM2' HA1 HB q0 q1 HI1 HI2
        generalize wr.drew = wd at HD1 HDG HD2 HDA HDM HDB ⊢
        go_wp2_with fail
        refine (take_calls bi [] s1 wd HD1.out HDG.out (by rw [HZ1.out]; simp)).mono ?_
        rintro e w6 ⟨rfl, hI6, hk6⟩
        rw [List.nil_append, HS1.out] at hI6
        have hkb : k ≤ wd.heap.size := by have := HDB.out.size; omega
        have HI6 := Aside0.mk hI6
        have HG6 : Aside0 (Glob w6) := ⟨HDG.out.of_grown hk6 (glob_ne HD1.out HDG.out)⟩
        have HO6 : Aside0 (HashIs w6 bo [] 0) := ⟨HD2.out.keep (hk6.block bo HD2.out.lt (by intro e; injection e; omega))⟩
        have HA6 : Aside0 (LA w6 k 190 [.pointer (some ⟨bi, 0, none⟩), .pointer (some ⟨bo, 0, none⟩)]) := ⟨HDA.out.grown hk6 (by intro e; injection e; omega)⟩
        have HM6 : Aside0 (LA w6 (k + 1 + 1) 183 ((padX key 92).map (Value.int .u8))) := ⟨HDM.out.grown hk6 (by intro e; injection e; omega)⟩
        have HB6 : Aside0 (Below w.heap.size w w6) := ⟨Below.row (below_step HB2.out (hkk ▸ HDB.out)) (by have := HWC.out; omega) hk6⟩
        clear HD1 HDG HD2 HDA HDM HDB hI6 hk6 HG2 HB2 HS1 HZ1

        have q0 := HA6.out.cell (i := 0) (v := .pointer (some ⟨bi, 0, none⟩)) rfl
        have q1 := HA6.out.cell (i := 1) (v := .pointer (some ⟨bo, 0, none⟩)) rfl
        have hcv1 := conv_arr w6.drew (k + 1 + 1) 64 (padX key 92) (by rw [padX, List.length_map, HPL.out]) HM6.out
        have hcv2 := conv_arr { heap := w6.heap, tape := w6.tape, drawn := w6.drawn + 1, os := w6.os, output := w6.output } (k + 1 + 1) 64 (padX key 92) (by rw [padX, List.length_map, HPL.out]) HM6.out
        go_wp2_with fail
        go_still_tail 6, (by kernel_rfl)
        change wpList _ _ _ _ _ w6.drew
        have hm1 : bytesOf (strOfNums (padX key 92)) = padX key 92 := bytesOf_strOfNums _ (bytes_padX key 92 (by decide) (by decide))
        have hz1 : (strOfNums (padX key 92)).size = 64 := by rw [strOfNums_size, padX, List.length_map, HPL.out]
        have HS1 := Aside0.mk hm1
        have HZ1 := Aside0.mk hz1
        clear hm1 hz1 hcv1 hcv2 q0 q1
        generalize strOfNums (padX key 92) = s2 at HS1 HZ1 ⊢
        have HI7 : Aside0 (HashIs w6.drew bi (padX key 54) (padX key 54).length) := ⟨HI6.out.keep rfl⟩
        have HO7 : Aside0 (HashIs w6.drew bo [] 0) := ⟨HO6.out.keep rfl⟩
        have HG7 : Aside0 (Glob w6.drew) := ⟨HG6.out⟩
        have HA7 : Aside0 (LA w6.drew k 190 [.pointer (some ⟨bi, 0, none⟩), .pointer (some ⟨bo, 0, none⟩)]) := ⟨HA6.out⟩
        have HB7 : Aside0 (Below w.heap.size w w6.drew) := ⟨HB6.out.drew⟩
        clear HI6 HO6 HG6 HA6 HB6 HM6
        generalize w6.drew = w7 at HI7 HO7 HG7 HA7 HB7 ⊢
        go_wp2_with fail
        refine (take_calls bo [] s2 w7 HO7.out HG7.out (by rw [HZ1.out]; simp)).mono ?_
        rintro e w8 ⟨rfl, hI8, hk8⟩
        rw [List.nil_append, HS1.out] at hI8
        have HI8 := Aside0.mk hI8
        have HJ8 : Aside0 (HashIs w8 bi (padX key 54) (padX key 54).length) := ⟨HI7.out.keep (hk8.block bi HI7.out.lt (by intro e; injection e; omega))⟩
        have HA8 : Aside0 (LA w8 k 190 [.pointer (some ⟨bi, 0, none⟩), .pointer (some ⟨bo, 0, none⟩)]) := ⟨HA7.out.grown hk8 (by intro e; injection e; omega)⟩
        have HB8 : Aside0 (Below w.heap.size w w8) := ⟨Below.row HB7.out (by have := HWC.out; omega) hk8⟩
        clear HI7 HO7 HG7 HA7 HB7 hI8 hk8 HS1 HZ1
        go_wp2_with fail
        go_ret
        have h3 := HWC.out
        exact ⟨k, bi, bo, rfl, ⟨⟨HA8.out, HJ8.out, HI8.out, by omega, by omega, by omega⟩, by omega, by omega, by omega⟩, HB8.out⟩
end Go.Proofs.YtfonhiakelmhhaaDoor.P
end
section
namespace Go.Proofs.YtfonhiakelmhhaaDoor.P
open Go.RowKit Go.Proofs.YtfonhiakelmhhaaDoorW.PrintWords Go.Proofs.YtfonhiakelmhhaaDoorW.PrintLast Go.Proofs.YtfonhiakelmhhaaDoorW.PrintMore
set_option linter.unusedVariables false
set_option linter.unusedSimpArgs false

def hmacL (key : ByteArray) (m : List Int) : ByteArray := shaS (padX key 92 ++ bytesOf (shaS (padX key 54 ++ m)))
theorem keyPad_length (key : ByteArray) : (keyPad key).length = 64 := by
  unfold keyPad keyL
  rw [List.length_append, List.length_replicate]
  split
  · rw [shaNums_length]
  · rw [bytesOf_length]; omega
theorem padX_length (key : ByteArray) (c : Int) : (padX key c).length = 64 := by rw [padX, List.length_map, keyPad_length]

set_option maxHeartbeats 4000000 in
set_option maxRecDepth 100000 in
theorem macOf_calls (key : ByteArray) (a c o : Nat) (ps : List ByteArray) (w : World)
    (hps : StrsAt w a o ps) (hc : ps.length ≤ c) (hpl : ps.length ≤ 1000000) (hG : Glob w) (hkey : key.size ≤ 281474976710656) (hlen : allSize ps ≤ 562949953421312) :
    Calls Tryd.prog 74 #[.string key, .slice (some ⟨a, o, none⟩) ps.length c] w fun e w' => e = .returned (.string (hmacL key (allBytes ps))) ∧ Below w.heap.size w w' := by
  have HP := Aside0.mk hps
  have HL := Aside0.mk hlen
  have HG := Aside0.mk hG
  clear hps hlen hG
  go_enter Tryd.func74, Tryd.ntmps74
  go_wp2_with fail
  refine (newKeyed_calls key w HG.out hkey).mono ?_
  rintro e w1 ⟨k, bi, bo, rfl, ⟨hI1, h1, h2, h3⟩, hb1⟩
  have HI := Aside0.mk hI1
  have HB1 := Aside0.mk hb1
  have HG1 : Aside0 (Glob w1) := ⟨HG.out.of_below hb1⟩
  have HP1 : Aside0 (StrsAt w1 a o ps) := ⟨HP.out.grown (grown_of_below hb1 none) (by simp)⟩
  have HN := Aside0.mk (show a ≠ bi by have := HP.out.1; omega)
  have HH := Aside0.mk (show w.heap.size ≤ k ∧ w.heap.size ≤ bi ∧ w.heap.size ≤ bo from ⟨h1, h2, h3⟩)
  clear hI1 hb1 h1 h2 h3
  go_wp2_with fail
  refine (feed_keyed k bi bo a c o ps (padX key 54) (padX key 92) w1 HP1.out hc hpl HN.out HI.out HG1.out (by have := HL.out; rw [padX_length]; omega)).mono ?_
  rintro e w2 ⟨rfl, ⟨hI2, hg2⟩, hk2⟩
  have HI2 := Aside0.mk hI2
  have HG2 := Aside0.mk hg2
  have HB2 : Aside0 (Below w.heap.size w w2) := ⟨Below.row HB1.out HH.out.2.1 hk2⟩
  clear hI2 hg2 hk2 HI HG1 HP1 HN
  go_wp2_with fail
  refine (keyedSum_calls k bi bo (padX key 54 ++ allBytes ps) (padX key 92) w2 HI2.out HG2.out (by have := HL.out; rw [List.length_append, allBytes_length, padX_length]; omega) (by rw [padX_length]; omega)).mono ?_
  rintro e w3 ⟨rfl, hk3⟩
  have HB3 : Aside0 (Below w.heap.size w w3) := ⟨HB2.out.trans (hk3 _ HH.out.2.1 HH.out.2.2 HB2.out.size)⟩
  clear hk3
  go_wp2_with fail
  go_ret
  exact ⟨rfl, HB3.out⟩

def hmacF (a0 a1 : ByteArray) : Option ByteArray := if a0.size ≤ 281474976710656 ∧ a1.size ≤ 281474976710656 then some (hmacL a0 (bytesOf a1)) else none
theorem hmac_some (a0 a1 r : ByteArray) (h : hmacF a0 a1 = some r) : (a0.size ≤ 281474976710656 ∧ a1.size ≤ 281474976710656) ∧ r = hmacL a0 (bytesOf a1) := by
  unfold hmacF at h
  split at h
  · exact ⟨by assumption, (Option.some.inj h).symm⟩
  · exact absurd h (by simp)
def impl_Hmac.f (a0 a1 : ByteArray) : Option ByteArray := hmacF a0 a1
end Go.Proofs.YtfonhiakelmhhaaDoor.P
end
section
namespace Go.Proofs.YtfonhiakelmhhaaDoor.P
open Go.RowKit Go.Proofs.YtfonhiakelmhhaaDoorW.PrintWords Go.Proofs.YtfonhiakelmhhaaDoorW.PrintLast Go.Proofs.YtfonhiakelmhhaaDoorW.PrintMore
set_option linter.unusedVariables false
set_option linter.unusedSimpArgs false

def hmacN (key : ByteArray) (m : List Int) : List Int := shaNums (padX key 92 ++ shaNums (padX key 54 ++ m))
theorem hmacL_eq (key : ByteArray) (m : List Int) : hmacL key m = strOfNums (hmacN key m) := by
  unfold hmacL hmacN
  rw [bytesOf_shaS]
  rfl
theorem hmacN_length (key : ByteArray) (m : List Int) : (hmacN key m).length = 32 := shaNums_length _
theorem bytes_hmacN (key : ByteArray) (m : List Int) : Bytes (hmacN key m) := bytes_shaNums _
def exN (key info : ByteArray) : Nat → List Int
  | 0 => []
  | j + 1 => hmacN key (exN key info j ++ bytesOf info ++ [((j : Int) + 1) % 256])
theorem bytes_exN (key info : ByteArray) (j : Nat) : Bytes (exN key info j) := by
  cases j with
  | zero => intro x hx; cases hx
  | succ j => exact bytes_hmacN _ _
theorem exN_le (key info : ByteArray) (j : Nat) : (exN key info j).length ≤ 32 := by
  cases j with
  | zero => exact Nat.zero_le _
  | succ j => exact Nat.le_of_eq (hmacN_length _ _)
def exAll (key info : ByteArray) : Nat → List Int
  | 0 => []
  | j + 1 => exAll key info j ++ exN key info (j + 1)
theorem exAll_length (key info : ByteArray) (j : Nat) : (exAll key info j).length = 32 * j := by
  induction j with
  | zero => rfl
  | succ j ih =>
    have : (exN key info (j + 1)).length = 32 := hmacN_length _ _
    rw [exAll, List.length_append, ih, this]
    omega
def expandS (key info : ByteArray) (n : Int) : ByteArray := strOfNums ((exAll key info ((n.toNat + 31) / 32)).take n.toNat)

theorem strOfNums_extract (l : List Int) (n : Nat) : (strOfNums l).extract 0 n = strOfNums (l.take n) := by
  apply ByteArray.ext
  rw [ByteArray.data_extract]
  apply Array.toList_inj.1
  rw [Array.toList_extract, strOfNums_data, strOfNums_data]
  simp [List.extract, List.map_take]
theorem exAll_prefix (key info : ByteArray) (i j n : Nat) (hn : n ≤ 32 * i) (hij : n ≤ 32 * j) : (exAll key info j).take n = (exAll key info i).take n := by
  have aux : ∀ d i, n ≤ 32 * i → (exAll key info (i + d)).take n = (exAll key info i).take n := by
    intro d
    induction d with
    | zero => intro i _; rfl
    | succ d ih =>
      intro i h
      rw [← Nat.add_assoc, exAll, List.take_append_of_le_length (by rw [exAll_length]; omega)]
      exact ih i h
  rcases Nat.le_total i j with h | h
  · obtain ⟨d, rfl⟩ := Nat.exists_eq_add_of_le h
    exact aux d i hn
  · obtain ⟨d, rfl⟩ := Nat.exists_eq_add_of_le h
    exact (aux d j hij).symm
theorem ex_size (key info : ByteArray) (j : Nat) (hi : info.size ≤ 281474976710656) : allSize [strOfNums (exN key info j), info, strOfNums [(j : Int) + 1]] ≤ 562949953421312 := by
  have := exN_le key info j
  simp only [allSize, List.map_cons, List.map_nil, List.sum_cons, List.sum_nil, strOfNums_size, List.length_cons, List.length_nil]
  omega
set_option maxHeartbeats 8000000 in
set_option maxRecDepth 100000 in
theorem expand_calls (key info : ByteArray) (n : Int) (w : World) (hG : Glob w) (hk : key.size ≤ 281474976710656) (hi : info.size ≤ 281474976710656) (h0 : 0 ≤ n) (h1 : n ≤ 8160) :
    Calls Tryd.prog 27 #[.string key, .string info, .int .i64 n] w fun e w' => e = .returned (.tuple #[.string (expandS key info n), .bool true]) ∧ Below w.heap.size w w' := by
  have HG := Aside0.mk hG
  have t1 : decide (n < 0) = false := decide_eq_false (by omega)
  have t2 : decide (8160 < n) = false := decide_eq_false (by omega)
  have t1' : (n < 0) = False := eq_false (by omega)
  have t2' : (8160 < n) = False := eq_false (by omega)
  have h0 : Lib.IsBuilderF 114 5 w.heap.size w.heap.size [] (w.alloc (.cells #[.pointer none, .slice none 0 0] 114)) := Lib.IsBuilderF.of (Lib.fresh_isBuilder 114 5 w)
  have H0 := Aside0.mk h0
  have b0 : Aside0 (Below w.heap.size w (w.alloc (.cells #[.pointer none, .slice none 0 0] 114))) := ⟨(Below.refl _ w).alloc (Nat.le_refl _) _⟩
  clear hG h0
  go_enter Tryd.func27, Tryd.ntmps27
  go_wp2_with fail
  have hB0 : w.heap.size ≤ (w.alloc (.cells #[.pointer none, .slice none 0 0] 114)).heap.size := b0.out.size
  generalize (w.alloc (.cells #[.pointer none, .slice none 0 0] 114)) = wb at H0 b0 hB0 ⊢
  go_loopw [9, 10] (fun v9 v10 wr => ∃ j : Nat, j ≤ 255 ∧ v9 = .string (strOfNums (exN key info j)) ∧ v10 = .int .i64 ((j : Int) + 1) ∧ Aside0 (Lib.IsBuilderF 114 5 w.heap.size w.heap.size (Lib.byteCells ((exAll key info j).map fun x => UInt8.ofNat x.toNat)) wr) ∧ Aside0 (Below w.heap.size w wr)) (fun _ v10 _ => 256 - (intOf v10).toNat)
  case atStart => exact ⟨0, by omega, rfl, rfl, H0, b0⟩
  case round =>
    clear H0 b0 hB0
    obtain ⟨j, hj, rfl, rfl, HI, HB⟩ := hrel
    have hz := HB.out.size
    by_cases hlt : 32 * (j : Int) < n
    · have ht : decide (32 * (j : Int) < n) = true := decide_eq_true hlt
      have hlen : (Lib.byteCells ((exAll key info j).map fun x => UInt8.ofNat x.toNat)).length = 32 * j := by rw [byteCells_length', exAll_length]
      have HLEN := Aside0.mk hlen
      clear hlen
      go_wp2_with fail
      refine (Tryd.Builder_Len_f w.heap.size w.heap.size _ _ HI.out).mono ?_
      rintro e w' ⟨rfl, rfl⟩
      rw [HLEN.out]
      have ht2 : decide (((32 * j : Nat) : Int) < n) = true := by rw [← ht]; congr 1
      have hcv := conv_arr (w'.alloc (.cells #[.int .u8 ((j : Int) + 1)] 5 (0, 0))) w'.heap.size 1 [(j : Int) + 1] rfl (LA.new w' 5 [.int .u8 ((j : Int) + 1)])
      have HW2 : Aside0 (Below w.heap.size w ((w'.alloc (.cells #[.int .u8 ((j : Int) + 1)] 5 (0, 0))).alloc (.cells #[.string (strOfNums (exN key info j)), .string info, .string (strOfNums [(j : Int) + 1])] 9 (0, 0)))) := ⟨(HB.out.alloc hz _).alloc (by rw [World.size_alloc]; omega) _⟩
      have hp2 := StrsAt.new (w'.alloc (.cells #[.int .u8 ((j : Int) + 1)] 5 (0, 0))) 9 [strOfNums (exN key info j), info, strOfNums [(j : Int) + 1]]
      rw [World.size_alloc] at hp2
      have HP2 := Aside0.mk hp2
      clear hp2
      have hI2 := builderF_below HI.out (((Below.refl _ w').alloc (Nat.le_refl _) (.cells #[.int .u8 ((j : Int) + 1)] 5 (0, 0))).alloc (by rw [World.size_alloc]; omega) (.cells #[.string (strOfNums (exN key info j)), .string info, .string (strOfNums [(j : Int) + 1])] 9 (0, 0)))
      have HI2 := Aside0.mk hI2
      clear hI2 HI
      go_wp2_with fail
      change Calls _ _ _ ((w'.alloc (.cells #[.int .u8 ((j : Int) + 1)] 5 (0, 0))).alloc (.cells ([strOfNums (exN key info j), info, strOfNums [(j : Int) + 1]].map Value.string).toArray 9 (0, 0))) _
      change Aside0 (Below w.heap.size w ((w'.alloc (.cells #[.int .u8 ((j : Int) + 1)] 5 (0, 0))).alloc (.cells ([strOfNums (exN key info j), info, strOfNums [(j : Int) + 1]].map Value.string).toArray 9 (0, 0)))) at HW2
      change Aside0 (Lib.IsBuilderF 114 5 w.heap.size w.heap.size (Lib.byteCells ((exAll key info j).map fun x => UInt8.ofNat x.toNat)) ((w'.alloc (.cells #[.int .u8 ((j : Int) + 1)] 5 (0, 0))).alloc (.cells ([strOfNums (exN key info j), info, strOfNums [(j : Int) + 1]].map Value.string).toArray 9 (0, 0)))) at HI2
      generalize ((w'.alloc (.cells #[.int .u8 ((j : Int) + 1)] 5 (0, 0))).alloc (.cells ([strOfNums (exN key info j), info, strOfNums [(j : Int) + 1]].map Value.string).toArray 9 (0, 0))) = w2 at HW2 HP2 HI2 ⊢
      clear hcv HB
      refine (macOf_calls key (w'.heap.size + 1) 3 0 [strOfNums (exN key info j), info, strOfNums [(j : Int) + 1]] w2 HP2.out (Nat.le_refl _) (show (3 : Nat) ≤ 1000000 by omega) (HG.out.of_below HW2.out) hk (ex_size key info j hi)).mono ?_
      rintro e w3 ⟨rfl, hb3⟩
      have e3 : hmacL key (allBytes [strOfNums (exN key info j), info, strOfNums [(j : Int) + 1]]) = strOfNums (exN key info (j + 1)) := by
        rw [hmacL_eq, exN]
        simp only [allBytes, List.flatMap_cons, List.flatMap_nil, List.append_nil]
        rw [bytesOf_strOfNums _ (bytes_exN _ _ _), bytesOf_strOfNums [(j : Int) + 1] (by intro x hx; obtain rfl := List.mem_singleton.1 hx; omega), List.append_assoc, show ((j : Int) + 1) % 256 = (j : Int) + 1 by omega]
      rw [e3]
      have HI3 := Aside0.mk (builderF_below HI2.out hb3)
      have HB3 : Aside0 (Below w.heap.size w w3) := ⟨below_step HW2.out hb3⟩
      have hz3 := HB3.out.size
      clear hb3 HI2 HW2 HP2 e3
      have hl3 : (strOfNums (exN key info (j + 1))).size = 32 := by rw [strOfNums_size]; exact hmacN_length _ _
      have HL3 := Aside0.mk hl3
      clear hl3
      go_wp2_with fail
      refine (Tryd.Builder_WriteString_f w.heap.size w.heap.size _ (strOfNums (exN key info (j + 1))) _ HI3.out (by rw [HLEN.out, HL3.out]; omega) hz3).mono ?_
      rintro e w4 ⟨rfl, h4, hb4⟩
      have HB4 : Aside0 (Below w.heap.size w w4) := ⟨HB3.out.trans hb4⟩
      have HI4 : Aside0 (Lib.IsBuilderF 114 5 w.heap.size w.heap.size (Lib.byteCells ((exAll key info (j + 1)).map fun x => UInt8.ofNat x.toNat)) w4) := ⟨by
        rw [exAll, List.map_append, Lib.byteCells_append]
        exact .inr h4⟩
      clear h4 hb4 HI3 HB3
      go_wp2_with fail
      refine ⟨⟨j + 1, by omega, rfl, rfl, HI4, HB4⟩, ?_⟩
      clear HI4 HB4 HL3 HLEN ht ht2
      show 256 - ((j : Int) + 1 + 1).toNat < 256 - ((j : Int) + 1).toNat
      omega
    · have ht : decide (32 * (j : Int) < n) = false := decide_eq_false hlt
      have hlen : (Lib.byteCells ((exAll key info j).map fun x => UInt8.ofNat x.toNat)).length = 32 * j := by rw [byteCells_length', exAll_length]
      have HLEN := Aside0.mk hlen
      clear hlen
      go_wp2_with fail
      refine (Tryd.Builder_Len_f w.heap.size w.heap.size _ _ HI.out).mono ?_
      rintro e w' ⟨rfl, rfl⟩
      rw [HLEN.out]
      have ht2 : decide (((32 * j : Nat) : Int) < n) = false := by rw [← ht]; congr 1
      go_wp2_with fail
      refine (Tryd.Builder_String_any_f w.heap.size w.heap.size _ _ HI.out hz).mono ?_
      rintro e w7 ⟨rfl, _, hb7⟩
      obtain ⟨sA, hsA⟩ : ∃ sA : ByteArray, sA = strOfNums (exAll key info j) := ⟨_, rfl⟩
      have HSA := Aside0.mk hsA
      have hsz : (sA.size : Int) = 32 * (j : Int) := by rw [hsA, strOfNums_size, exAll_length]; omega
      have hnn : n.toNat ≤ sA.size := by omega
      have hn2 : n ≤ (sA.size : Int) := by omega
      have hn3 : ((0 : Int) ≤ n) = True := eq_true (by omega)
      rw [show ({ data := (List.map (fun x => UInt8.ofNat x.toNat) (exAll key info j)).toArray } : ByteArray) = sA from hsA.symm]
      clear hsA hsz ht ht2 hlt
      go_wp2_with fail
      go_ret2
      refine ⟨?_, HB.out.trans hb7⟩
      rw [HSA.out, strOfNums_extract, expandS, ← exAll_prefix key info ((n.toNat + 31) / 32) j n.toNat (by omega) (by have h := HSA.out; have h2 := congrArg ByteArray.size h; rw [strOfNums_size, exAll_length] at h2; omega)]
      rfl

def impl_Expand.f (a0 a1 : ByteArray) (a2 : Int) : Option (ByteArray × Bool) :=
  if a0.size ≤ 281474976710656 ∧ a1.size ≤ 281474976710656 then some (if a2 < 0 then (⟨#[]⟩, false) else if 8160 < a2 then (⟨#[]⟩, false) else (expandS a0 a1 a2, true)) else none
set_option maxHeartbeats 4000000 in
set_option maxRecDepth 100000 in
theorem impl_Expand.calls_at (a0 a1 : ByteArray) (a2 : Int) (r : ByteArray × Bool) (w : World) (h : impl_Expand.f a0 a1 a2 = some r) (hG : Glob w) :
    Calls Tryd.prog 27 #[.string a0, .string a1, .int .i64 a2] w fun e w' => e = .returned (.tuple #[.string r.1, .bool r.2]) ∧ Below w.heap.size w w' := by
  unfold impl_Expand.f at h
  split at h
  · rename_i hz
    obtain rfl := Option.some.inj h
    clear h
    by_cases h0 : a2 < 0
    · rw [if_pos h0]
      have t1 : decide (a2 < 0) = true := decide_eq_true h0
      go_enter Tryd.func27, Tryd.ntmps27
      go_wp2
      go_ret2
      exact ⟨rfl, Below.refl _ _⟩
    · rw [if_neg h0]
      by_cases h1 : 8160 < a2
      · rw [if_pos h1]
        have t1 : decide (a2 < 0) = false := decide_eq_false h0
        have t2 : decide (8160 < a2) = true := decide_eq_true h1
        go_enter Tryd.func27, Tryd.ntmps27
        go_wp2
        go_ret2
        exact ⟨rfl, Below.refl _ _⟩
      · rw [if_neg h1]
        exact expand_calls a0 a1 a2 w hG hz.1 hz.2 (by omega) (by omega)
  · exact absurd h (by simp)
theorem impl_Expand.calls (a0 a1 : ByteArray) (a2 : Int) (r1 : ByteArray) (r2 : Bool) (w : World) (h : impl_Expand.f a0 a1 a2 = some (r1, r2)) (hG : Glob w) :
    Calls Tryd.prog 27 #[.string a0, .string a1, .int .i64 a2] w fun e w' => e = .returned (.tuple #[.string r1, .bool r2]) ∧ Below w.heap.size w w' := impl_Expand.calls_at a0 a1 a2 (r1, r2) w h hG
end Go.Proofs.YtfonhiakelmhhaaDoor.P
end
section
namespace Go.Proofs.YtfonhiakelmhhaaDoor.P
open Go.RowKit Go.Proofs.YtfonhiakelmhhaaDoorW.PrintWords Go.Proofs.YtfonhiakelmhhaaDoorW.PrintLast Go.Proofs.YtfonhiakelmhhaaDoorW.PrintMore
set_option linter.unusedVariables false
set_option linter.unusedSimpArgs false

def xorL (a b : List Int) : List Int := List.zipWith (Go.bits .xor .u8) a b
def xmdN (b0 : List Int) (T : ByteArray) (last : List Int) (c : Int) : List Int := shaNums (xorL b0 last ++ [(c + 1) % 256] ++ bytesOf T)

structure BlkIs (w : World) (ai ab al at' : Nat) (c : Int) (b0 last T : ByteArray) : Prop where
  i : LA w ai 5 [.int .u8 c]
  b : LA w ab 9 [.string b0]
  l : LA w al 9 [.string last]
  t : LA w at' 9 [.string T]
  n1 : ai ≠ ab
  n2 : ai ≠ al
  n3 : ai ≠ at'
  n4 : al ≠ ab
  n5 : al ≠ at'

theorem BlkIs.keep {w w' : World} {ai ab al at' : Nat} {c : Int} {b0 last T : ByteArray} (h : BlkIs w ai ab al at' c b0 last T) (hk : ∀ g, g < w.heap.size → w'.heap[g]? = w.heap[g]?) : BlkIs w' ai ab al at' c b0 last T :=
  ⟨(hk ai h.i.lt).trans h.i, (hk ab h.b.lt).trans h.b, (hk al h.l.lt).trans h.l, (hk at' h.t.lt).trans h.t, h.n1, h.n2, h.n3, h.n4, h.n5⟩
theorem BlkIs.tick {w : World} {ai ab al at' : Nat} {c : Int} {b0 last T : ByteArray} (h : BlkIs w ai ab al at' c b0 last T) : BlkIs (w.setCell ⟨ai, 0, none⟩ (.int .u8 (c + 1))) ai ab al at' (c + 1) b0 last T :=
  ⟨h.i.set 0 _, h.b.other _ h.n1 _, h.l.other _ h.n2 _, h.t.other _ h.n3 _, h.n1, h.n2, h.n3, h.n4, h.n5⟩
theorem BlkIs.put {w : World} {ai ab al at' : Nat} {c : Int} {b0 last T : ByteArray} (h : BlkIs w ai ab al at' c b0 last T) (s : ByteArray) : BlkIs (w.setCell ⟨al, 0, none⟩ (.string s)) ai ab al at' c b0 s T :=
  ⟨h.i.other _ h.n2.symm _, h.b.other _ h.n4 _, h.l.set 0 _, h.t.other _ h.n5 _, h.n1, h.n2, h.n3, h.n4, h.n5⟩
def xorN (a b : List Int) (n : Nat) : List Int := (xorL a b).take n
theorem run_index_bytes {P : Program} (w : World) (t : TypeId) (s : ByteArray) (n : Nat) (h : P.underlying t = some .string) (hn : n < s.size) : (Instr.index t (.string s) (.int .i64 (n : Int))).run P w = .ok (.int .u8 ((bytesOf s).getD n 0)) w := by
  have e : (bytesOf s).getD n 0 = ((s[n]'hn).toNat : Int) := by
    unfold bytesOf
    rw [List.getD_eq_getElem?_getD, List.getElem?_map, Array.getElem?_toList, Array.getElem?_eq_getElem (show n < s.data.size from hn)]
    rfl
  rw [run_index_string w t s .i64 (n : Int) h, dif_pos ⟨by omega, by omega⟩, e]
  rfl
structure HoldS (w1 : World) (M ai at' al : Nat) (c : Int) (T : ByteArray) (X : List Int) (W : World) : Prop where
  i : LA W ai 5 [.int .u8 c]
  t : LA W at' 9 [.string T]
  x : LA W M 170 (X.map (Value.int .u8))
  g : w1.grownBy W (some al)
theorem HoldS.inl {w1 W : World} {M ai at' al : Nat} {c : Int} {T : ByteArray} {X : List Int} (hX : X.length = 32) (h : HoldS w1 M ai at' al c T X W) :
    W.cell? ⟨ai, 0, none⟩ = some (.int .u8 c) ∧ W.cell? ⟨at', 0, none⟩ = some (.string T) ∧ (convert 40 9 (.slice (some ⟨M, 0, none⟩) 32 32)).run Tryd.prog W = .ok (.string (strOfNums X)) W ∧ Aside0 (HoldS w1 M ai at' al c T X W) :=
  ⟨h.i.cell (i := 0) rfl, h.t.cell (i := 0) rfl, conv_arr W M 32 X hX h.x, ⟨h⟩⟩
theorem HoldS.alloc {w1 W : World} {M ai at' al : Nat} {c : Int} {T : ByteArray} {X : List Int} (h : HoldS w1 M ai at' al c T X W) (o : Obj) : HoldS w1 M ai at' al c T X (W.alloc o) :=
  ⟨h.i.alloc o, h.t.alloc o, h.x.alloc o, grownBy_alloc h.g o⟩
theorem HoldS.below {w1 W W' : World} {M ai at' al : Nat} {c : Int} {T : ByteArray} {X : List Int} (h : HoldS w1 M ai at' al c T X W) (hb : Below W.heap.size W W') : HoldS w1 M ai at' al c T X W' :=
  ⟨h.i.below hb, h.t.below hb, h.x.below hb, grownBy_trans h.g (grown_of_below hb _)⟩
theorem HoldS.put {w1 W : World} {M ai at' al : Nat} {c : Int} {T : ByteArray} {X : List Int} (h : HoldS w1 M ai at' al c T X W) (h1 : ai ≠ al) (h2 : al ≠ at') (hM : al ≠ M) (v : Value) : HoldS w1 M ai at' al c T X (W.setCell ⟨al, 0, none⟩ v) :=
  ⟨h.i.other _ h1.symm _, h.t.other _ h2 _, h.x.other _ hM _, grownBy_set h.g 0 _⟩
theorem bytes_xorL (a b : List Int) (ha : Bytes a) (hb : Bytes b) : Bytes (xorL a b) := by
  intro x hx
  unfold xorL at hx
  rw [List.zipWith_eq_zipWith_take_min, ← List.map_uncurry_zip_eq_zipWith] at hx
  obtain ⟨⟨y, z⟩, hy, rfl⟩ := List.mem_map.1 hx
  obtain ⟨h1, h2⟩ := ha y (List.mem_of_mem_take (List.of_mem_zip hy).1)
  obtain ⟨h3, h4⟩ := hb z (List.mem_of_mem_take (List.of_mem_zip hy).2)
  show 0 ≤ Go.bits .xor .u8 y z ∧ Go.bits .xor .u8 y z < 256
  rw [u8_xor y z h1 h2 h3 h4]
  have : y.toNat ^^^ z.toNat < 2 ^ 8 := Nat.xor_lt_two_pow (by omega) (by omega)
  omega
theorem xmd_eq (b0 last : List Int) (T : ByteArray) (c : Int) (h : Bytes (xorL b0 last)) (hc0 : 0 ≤ c) (hc1 : c < 255) :
    shaS (allBytes [strOfNums (xorL b0 last), strOfNums [c + 1], T]) = strOfNums (xmdN b0 T last c) := by
  unfold shaS xmdN
  simp only [allBytes, List.flatMap_cons, List.flatMap_nil, List.append_nil]
  rw [bytesOf_strOfNums _ h, bytesOf_strOfNums [c + 1] (by intro x hx; obtain rfl := List.mem_singleton.1 hx; omega), show (c + 1) % 256 = c + 1 by omega, List.append_assoc]
theorem bc_size (X : List Int) (c : Int) (T : ByteArray) (hX : X.length = 32) (hT : T.size ≤ 256) : allSize [strOfNums X, strOfNums [c + 1], T] ≤ 576460752303423488 := by
  simp only [allSize, List.map_cons, List.map_nil, List.sum_cons, List.sum_nil, strOfNums_size, hX, List.length_cons, List.length_nil]
  omega
theorem xorN_length (a b : List Int) (n : Nat) (ha : n ≤ a.length) (hb : n ≤ b.length) : (xorN a b n).length = n := by
  rw [xorN, List.length_take, xorL, List.length_zipWith]
  omega
theorem xorN_all (a b : List Int) (n : Nat) (h : a.length ≤ n) : xorN a b n = xorL a b := by
  rw [xorN, List.take_of_length_le (by rw [xorL, List.length_zipWith]; omega)]
theorem xorN_succ (a b : List Int) (n : Nat) (ha : n < a.length) (hb : n < b.length) : xorN a b (n + 1) = xorN a b n ++ [Go.bits .xor .u8 (a.getD n 0) (b.getD n 0)] := by
  rw [xorN, List.take_add_one]
  congr 1
  rw [xorL, List.getElem?_zipWith, List.getElem?_eq_getElem ha, List.getElem?_eq_getElem hb, List.getD_eq_getElem?_getD, List.getD_eq_getElem?_getD, List.getElem?_eq_getElem ha, List.getElem?_eq_getElem hb]
  rfl
set_option maxHeartbeats 8000000 in
set_option maxRecDepth 100000 in
theorem blockC_calls (ai ab al at' : Nat) (c : Int) (b0 last T : ByteArray) (w : World) (hG : Glob w) (h : BlkIs w ai ab al at' c b0 last T) (hb : b0.size = 32) (hl : last.size = 32) (hT : T.size ≤ 256) (hc0 : 0 ≤ c) (hc1 : c < 255) (hn : NotG ai ∧ NotG al) :
    Calls Tryd.prog 136 #[.pointer (some ⟨ai, 0, none⟩), .pointer (some ⟨ab, 0, none⟩), .pointer (some ⟨al, 0, none⟩), .pointer (some ⟨at', 0, none⟩)] w fun e w' => e = .returned (.string (strOfNums (xmdN (bytesOf b0) T (bytesOf last) c))) ∧
      BlkIs w' ai ab al at' (c + 1) b0 (strOfNums (xmdN (bytesOf b0) T (bytesOf last) c)) T ∧ (∀ g, g < w.heap.size → g ≠ ai → g ≠ al → w'.heap[g]? = w.heap[g]?) ∧ ∀ B, B ≤ ai → B ≤ al → Below B w w' := by
  have HG := Aside0.mk hG
  have HI := Aside0.mk h
  have qi := h.i.cell (i := 0) (v := .int .u8 c) rfl
  have fi := h.i.free 0
  have hwr : IntKind.u8.wrap (c + 1) = c + 1 := by rw [IntKind.wrap_u8]; omega
  clear hG h
  go_enter Tryd.func136, Tryd.ntmps136
  go_wp2_with fail
  obtain ⟨w1, hw1⟩ : ∃ w1, w1 = w.setCell ⟨ai, 0, none⟩ (.int .u8 (c + 1)) := ⟨_, rfl⟩
  have hM : w1.heap.size = w.heap.size := by rw [hw1]; exact World.size_setCell _ _ _
  have HI1 : Aside0 (BlkIs w1 ai ab al at' (c + 1) b0 last T) := ⟨by rw [hw1]; exact HI.out.tick⟩
  have HG1 : Aside0 (Glob w1) := ⟨by rw [hw1]; exact HG.out.of_grown (grownBy_set (grownBy_refl w _) 0 _) hn.1⟩
  have HK1 : Aside0 (w.grownBy w1 (some ai)) := ⟨by rw [hw1]; exact grownBy_set (grownBy_refl w _) 0 _⟩
  rw [← hw1]
  clear hw1 HG HI qi fi hwr
  change Code.wp _ _ _ _ (w1.alloc (.cells (fillL .u8 32 (xorN (bytesOf b0) (bytesOf last) 0)).toArray 170 (0, 0)))
  have hm0 := LA.new w1 170 (fillL .u8 32 (xorN (bytesOf b0) (bytesOf last) 0))
  have hb0 : Below w1.heap.size w1 (w1.alloc (.cells (fillL .u8 32 (xorN (bytesOf b0) (bytesOf last) 0)).toArray 170 (0, 0))) := (Below.refl _ _).alloc (Nat.le_refl _) _
  generalize (w1.alloc (.cells (fillL .u8 32 (xorN (bytesOf b0) (bytesOf last) 0)).toArray 170 (0, 0))) = w2 at hm0 hb0 ⊢
  rw [hM] at hm0 hb0
  have HM0 := Aside0.mk hm0
  have HB0 := Aside0.mk hb0
  clear hm0 hb0
  go_loopw [6, 9] (fun v6 v9 wr => ∃ n : Nat, n ≤ 32 ∧ v9 = .int .i64 n ∧ Aside0 (LA wr w.heap.size 170 (fillL .u8 32 (xorN (bytesOf b0) (bytesOf last) n))) ∧ Aside0 (Below w.heap.size w1 wr)) (fun _ v9 _ => 32 - (intOf v9).toNat)
  case atStart => exact ⟨0, by omega, rfl, HM0, HB0⟩
  case round =>
    clear HM0 HB0
    obtain ⟨n, hnn, rfl, HM, HB⟩ := hrel
    by_cases hlt : n < 32
    · have ht : decide ((n : Int) < 32) = true := decide_eq_true (by omega)
      have hx1 : ∀ W, (Instr.index 9 (.string b0) (.int .i64 (n : Int))).run Tryd.prog W = .ok (.int .u8 ((bytesOf b0).getD n 0)) W := fun W => run_index_bytes W _ b0 n Tryd.underlying9 (by omega)
      have hx2 : ∀ W, (Instr.index 9 (.string last) (.int .i64 (n : Int))).run Tryd.prog W = .ok (.int .u8 ((bytesOf last).getD n 0)) W := fun W => run_index_bytes W _ last n Tryd.underlying9 (by omega)
      have HIr : BlkIs wr ai ab al at' (c + 1) b0 last T := HI1.out.keep (fun g hg => HB.out.block g (by omega))
      have qb := HIr.b.cell (i := 0) (v := .string b0) rfl
      have ql := HIr.l.cell (i := 0) (v := .string last) rfl
      clear HIr
      have hs1 : (n : Int) < (b0.size : Int) := by omega
      have hs2 : (n : Int) < (last.size : Int) := by omega
      have hs3 : (0 : Int) ≤ (n : Int) := by omega
      have hs4 : (n : Int) < 32 := by omega
      have hs5 : (n : Int) < ((32 : Nat) : Int) := by omega
      go_wp2_with fail
      go_still_tail 9, (by kernel_rfl)
      change wpList _ _ _ _ _ wr.drew
      have HMd : Aside0 (LA wr.drew w.heap.size 170 (fillL .u8 32 (xorN (bytesOf b0) (bytesOf last) n))) := ⟨HM.out⟩
      have HBd : Aside0 (Below w.heap.size w1 wr.drew) := ⟨HB.out.drew⟩
      clear HM HB qb ql hx1 hx2
      generalize wr.drew = wd at HMd HBd ⊢
      have hxl : (xorN (bytesOf b0) (bytesOf last) n).length = n := xorN_length _ _ _ (by rw [bytesOf_length]; omega) (by rw [bytesOf_length]; omega)
      obtain ⟨x0, hx0⟩ := fillL_some (k := .u8) (n := 32) (xs := xorN (bytesOf b0) (bytesOf last) n) (i := n) (by omega) (by omega)
      have s1 := HMd.out.cell hx0
      have s2 := HMd.out.free n
      have HXL := Aside0.mk hxl
      clear hx0 hxl
      go_wp2_with fail
      refine ⟨⟨n + 1, by omega, rfl, ⟨?_⟩, ⟨HBd.out.setCell (p := ⟨w.heap.size, n, none⟩) (Nat.le_refl _) _⟩⟩, ?_⟩
      · have e := HMd.out.set n (.int .u8 (Go.bits .xor .u8 ((bytesOf b0).getD n 0) ((bytesOf last).getD n 0)))
        have e2 := fillL_set (k := .u8) (n := 32) (xs := xorN (bytesOf b0) (bytesOf last) n) (Go.bits .xor .u8 ((bytesOf b0).getD n 0) ((bytesOf last).getD n 0)) (by rw [HXL.out]; omega)
        rw [HXL.out] at e2
        rw [e2, ← xorN_succ _ _ _ (by rw [bytesOf_length]; omega) (by rw [bytesOf_length]; omega)] at e
        simpa only [List.getD_eq_getElem?_getD] using e
      · clear HMd HBd HXL s1 s2
        show 32 - ((n : Int) + 1).toNat < 32 - ((n : Int)).toNat
        omega
    · have hn8 : n = 32 := by omega
      have ht : decide ((n : Int) < 32) = false := decide_eq_false (by omega)
      subst hn8
      have hxe : xorN (bytesOf b0) (bytesOf last) 32 = xorL (bytesOf b0) (bytesOf last) := xorN_all _ _ _ (by rw [bytesOf_length]; omega)
      have hxl : (xorL (bytesOf b0) (bytesOf last)).length = 32 := by rw [xorL, List.length_zipWith, bytesOf_length, bytesOf_length, hb, hl]; rfl
      have hM2 : LA wr w.heap.size 170 ((xorL (bytesOf b0) (bytesOf last)).map (Value.int .u8)) := by
        have e := HM.out
        rw [hxe, fillL, hxl] at e
        simpa using e
      have HM2 := Aside0.mk hM2
      have HXL := Aside0.mk hxl
      clear hM2 hxl hxe HM ht hlt hnn
      have HIr : Aside0 (BlkIs wr ai ab al at' (c + 1) b0 last T) := ⟨HI1.out.keep (fun g hg => HB.out.block g (by omega))⟩
      have hn2 := HIr.out.n2
      have hn5 := HIr.out.n5
      have hnM : al ≠ w.heap.size := by have h := HI1.out.l.lt; omega
      go_upto_region 8 with fail
      obtain ⟨X, hX⟩ : ∃ X, X = xorL (bytesOf b0) (bytesOf last) := ⟨_, rfl⟩
      have HX := Aside0.mk hX
      rw [← hX] at HM2 HXL
      clear hX
      have hS0 : HoldS w1 w.heap.size ai at' al (c + 1) T X wr.drew := ⟨HIr.out.i, HIr.out.t, HM2.out, grownBy_drew (grown_of_below (hM ▸ HB.out) _)⟩
      have HS0 := Aside0.mk hS0
      clear hS0
      have hcv : (convert 40 9 (.slice (some ⟨wr.heap.size, 0, none⟩) 1 1)).run Tryd.prog (wr.alloc (.cells #[.int .u8 (c + 1)] 5 (0, 0))).drew = .ok (.string (strOfNums [c + 1])) (wr.alloc (.cells #[.int .u8 (c + 1)] 5 (0, 0))).drew := conv_arr (wr.alloc (.cells #[.int .u8 (c + 1)] 5 (0, 0))).drew wr.heap.size 1 [c + 1] rfl (LA.new wr 5 [.int .u8 (c + 1)])
      have hp : StrsAt ((wr.alloc (.cells #[.int .u8 (c + 1)] 5 (0, 0))).alloc (.cells ([strOfNums X, strOfNums [c + 1], T].map Value.string).toArray 9 (0, 0))).drew (wr.heap.size + 1) 0 [strOfNums X, strOfNums [c + 1], T] := by
        have e := StrsAt.new (wr.alloc (.cells #[.int .u8 (c + 1)] 5 (0, 0))) 9 [strOfNums X, strOfNums [c + 1], T]
        rw [World.size_alloc] at e
        exact e
      have hg : Glob ((wr.alloc (.cells #[.int .u8 (c + 1)] 5 (0, 0))).alloc (.cells ([strOfNums X, strOfNums [c + 1], T].map Value.string).toArray 9 (0, 0))).drew := HG1.out.of_below  (hM ▸ ((HB.out.alloc (by have := HB.out.size; omega) _).alloc (by rw [World.size_alloc]; have := HB.out.size; omega) _).drew)
      have hIh : BlkIs ((wr.alloc (.cells #[.int .u8 (c + 1)] 5 (0, 0))).alloc (.cells ([strOfNums X, strOfNums [c + 1], T].map Value.string).toArray 9 (0, 0))).drew ai ab al at' (c + 1) b0 last T := HIr.out.keep (fun g hg => ((((Below.refl wr.heap.size wr).alloc (Nat.le_refl _) _).alloc (by rw [World.size_alloc]; omega) _).drew).block g hg)
      have hbh : w1.grownBy ((wr.alloc (.cells #[.int .u8 (c + 1)] 5 (0, 0))).alloc (.cells ([strOfNums X, strOfNums [c + 1], T].map Value.string).toArray 9 (0, 0))).drew none := grown_of_below (hM ▸ ((HB.out.alloc (by have := HB.out.size; omega) _).alloc (by rw [World.size_alloc]; have := HB.out.size; omega) _).drew) none
      have HIH := Aside0.mk hIh
      have HBH := Aside0.mk hbh
      have HP := Aside0.mk hp
      have HGH := Aside0.mk hg
      have HSH : Aside0 (HoldS w1 w.heap.size ai at' al (c + 1) T X ((wr.alloc (.cells #[.int .u8 (c + 1)] 5 (0, 0))).alloc (.cells ([strOfNums X, strOfNums [c + 1], T].map Value.string).toArray 9 (0, 0))).drew) := ⟨(HS0.out.alloc _).alloc _⟩
      clear hIh hbh hp hg
      have hR : shaS (allBytes [strOfNums X, strOfNums [c + 1], T]) = (strOfNums (xmdN (bytesOf b0) T (bytesOf last) c)) := by
        rw [HX.out]
        exact xmd_eq _ _ _ _ (by rw [← bytesOf_length] at hb; exact bytes_xorL _ _ (bytes_bytesOf _) (bytes_bytesOf _)) hc0 hc1
      have HR := Aside0.mk hR
      clear hR
      go_region_held (fun W => W.cell? ⟨ai, 0, none⟩ = some (.int .u8 (c + 1)) ∧ W.cell? ⟨at', 0, none⟩ = some (.string T) ∧ (convert 40 9 (.slice (some ⟨w.heap.size, 0, none⟩) 32 32)).run Tryd.prog W = .ok (.string (strOfNums X)) W ∧ Aside0 (HoldS w1 w.heap.size ai at' al (c + 1) T X W))
        (first
          | exact HoldS.inl HXL.out HS0.out
          | exact HoldS.inl HXL.out (HS0.out.alloc _)
          | exact HoldS.inl HXL.out ((HS0.out.alloc _).alloc _)
          | exact HoldS.inl HXL.out HS5.out
          | exact HoldS.inl HXL.out (HS5.out.put hn2 hn5 hnM _))
        (first
          | (go_at_call 70; refine (hashOf_calls (wr.heap.size + 1) 3 0 [strOfNums X, strOfNums [c + 1], T] _ HP.out (Nat.le_refl _) (show (3 : Nat) ≤ 1000000 by omega) HGH.out (bc_size X c T HXL.out hT)).mono ?_; rintro e w5 ⟨rfl, hb5⟩; rw [HR.out]; have HI5 := Aside0.mk (HIH.out.keep hb5.block); have HS5 := Aside0.mk (HSH.out.below hb5); have HB5 := Aside0.mk (grownBy_trans HBH.out (grown_of_below hb5 none)); have q5 := HI5.out.l.cell (i := 0) (v := .string last) rfl; have f5 := HI5.out.l.free 0; clear hb5))
      all_goals
        have HI6 := Aside0.mk (HI5.out.put (strOfNums (xmdN (bytesOf b0) T (bytesOf last) c)))
        have q6 := HI6.out.l.cell (i := 0) (v := .string (strOfNums (xmdN (bytesOf b0) T (bytesOf last) c))) rfl
        go_wp2_with fail
        go_ret
        refine ⟨rfl, HI6.out, fun g hg h1 h2 => ?_, fun B h1 h2 => ?_⟩
        · have hs1 := HK1.out.size
          have e1 := HK1.out.block g hg (by intro e; injection e with e; exact h1 e)
          have e2 := HB5.out.block g (by omega) (by simp)
          exact ((grownBy_set (grownBy_refl w5 (some al)) 0 _).block g (by have := HB5.out.size; omega) (by intro e; injection e with e; exact h2 e)).trans (e2.trans e1)
        have hl6 := HI5.out.l.lt
        have hs1 := HK1.out.size
        have hai := HI1.out.i.lt
        exact ((grown_none HK1.out h1 (by omega)).trans (grown_none (b := w1.heap.size) ⟨HB5.out.os, HB5.out.tape, HB5.out.output, HB5.out.size, fun i hi _ => HB5.out.block i hi (by simp)⟩ (by omega) (by omega))).setCell (p := ⟨al, 0, none⟩) h2 _
end Go.Proofs.YtfonhiakelmhhaaDoor.P
end
section
namespace Go.Proofs.YtfonhiakelmhhaaDoor.P
open Go.RowKit Go.Proofs.YtfonhiakelmhhaaDoorW.PrintWords Go.Proofs.YtfonhiakelmhhaaDoorW.PrintLast Go.Proofs.YtfonhiakelmhhaaDoorW.PrintMore
set_option linter.unusedVariables false
set_option linter.unusedSimpArgs false

def tagS (tag : ByteArray) : ByteArray := tag ++ strOfNums [(tag.size : Int) % 256]
def b0S (msg tag : ByteArray) (n : Int) : ByteArray := shaS (List.replicate 64 0 ++ bytesOf msg ++ be16 n ++ [0] ++ bytesOf (tagS tag))
def zero32 : ByteArray := strOfNums (List.replicate 32 0)

theorem LA.after {w w' W : World} {g : Nat} {t : TypeId} {L : List Value} (hb : Below W.heap.size W w') (h : LA w g t L) (hw : W.heap = w.heap) : LA w' g t L :=
  (hb.block g (by rw [hw]; exact h.lt)).trans ((congrArg (fun x => x[g]?) hw).trans h)
structure BS (w : World) (at' : Nat) (T : ByteArray) (W : World) : Prop where
  t : LA W at' 9 [.string T]
  b : Below w.heap.size w W
theorem BS.inl {w W : World} {at' : Nat} {T : ByteArray} (h : BS w at' T W) : W.cell? ⟨at', 0, none⟩ = some (.string T) ∧ Aside0 (BS w at' T W) := ⟨h.t.cell (i := 0) rfl, ⟨h⟩⟩
theorem BS.alloc {w W : World} {at' : Nat} {T : ByteArray} (h : BS w at' T W) (o : Obj) : BS w at' T (W.alloc o) := ⟨h.t.alloc o, h.b.alloc h.b.size o⟩
theorem BS.after {w W W0 w' : World} {at' : Nat} {T : ByteArray} (hb : Below W.heap.size W w') (h : BS w at' T W0) (h1 : W.heap = W0.heap) (h2 : W.os = W0.os) (h3 : W.tape = W0.tape) (h4 : W.output = W0.output) : BS w at' T w' := by
  have hz := h.b.size
  refine ⟨LA.after hb h.t h1, ⟨hb.os.trans (h2.trans h.b.os), hb.tape.trans (h3.trans h.b.tape), hb.output.trans (h4.trans h.b.output), Nat.le_trans hz (by have := hb.size; rw [h1] at this; exact this), fun i hi => (hb.block i (by rw [h1]; omega)).trans ((congrArg (fun x => x[i]?) h1).trans (h.b.block i hi))⟩⟩
theorem BS.below {w W w' : World} {at' : Nat} {T : ByteArray} (h : BS w at' T W) (hb : Below W.heap.size W w') : BS w at' T w' := BS.after hb h rfl rfl rfl rfl
theorem BS.set {w W : World} {at' ab : Nat} {T : ByteArray} (h : BS w at' T W) (h1 : ab ≠ at') (h2 : w.heap.size ≤ ab) (v : Value) : BS w at' T (W.setCell ⟨ab, 0, none⟩ v) := ⟨h.t.other _ h1 _, h.b.setCell h2 _⟩
theorem b0_size (msg T : ByteArray) (n : Int) (hm : msg.size ≤ 281474976710656) (hT : T.size ≤ 256) : allSize [⟨(Lib.repeatL [0] 64).toArray⟩, msg, strOfNums (be16 n), ⟨#[0]⟩, T] ≤ 576460752303423488 := by
  have h1 : (strOfNums (be16 n)).size = 2 := by rw [strOfNums_size]; rfl
  have h2 : (⟨#[0]⟩ : ByteArray).size = 1 := rfl
  have h3 : (⟨(Lib.repeatL [0] 64).toArray⟩ : ByteArray).size = 64 := rfl
  simp only [allSize, List.map_cons, List.map_nil, List.sum_cons, List.sum_nil, h1, h2, h3]
  omega
theorem b0_eq (msg tag : ByteArray) (n : Int) : shaS (allBytes [⟨(Lib.repeatL [0] 64).toArray⟩, msg, strOfNums (be16 n), ⟨#[0]⟩, tagS tag]) = b0S msg tag n := by
  unfold b0S
  congr 1
  simp only [allBytes, List.flatMap_cons, List.flatMap_nil, List.append_nil]
  rw [bytesOf_repeat0, bytesOf_strOfNums (be16 n) (by intro x hx; simp only [be16, List.mem_cons, List.not_mem_nil, or_false] at hx; rcases hx with rfl | rfl <;> omega)]
  simp only [List.append_assoc]
  rfl
theorem newc_a (w : World) (T msg : ByteArray) (n : Int) : StrsAt (w.alloc (.cells #[.string ⟨(Lib.repeatL [0] 64).toArray⟩, .string msg, .string (strOfNums (be16 n)), .string ⟨#[0]⟩, .string T] 9 (0, 0))) w.heap.size 0 [⟨(Lib.repeatL [0] 64).toArray⟩, msg, strOfNums (be16 n), ⟨#[0]⟩, T] := StrsAt.new w 9 [⟨(Lib.repeatL [0] 64).toArray⟩, msg, strOfNums (be16 n), ⟨#[0]⟩, T]
theorem newc_b (w : World) (T msg : ByteArray) (n : Int) : StrsAt ((w.alloc (.cells #[.string ⟨(Lib.repeatL [0] 64).toArray⟩, .string msg, .string (strOfNums (be16 n)), .string ⟨#[0]⟩, .string T] 9 (0, 0))).alloc (.cells #[.string ⟨#[]⟩] 9 (0, 0))) w.heap.size 0 [⟨(Lib.repeatL [0] 64).toArray⟩, msg, strOfNums (be16 n), ⟨#[0]⟩, T] := StrsAt.grown (newc_a w T msg n) (grown_of_below ((Below.refl _ _).alloc (Nat.le_refl _) _) none) (by simp)
theorem newc_strs (w : World) (T msg : ByteArray) (n : Int) : StrsAt ((w.alloc (.cells #[.string ⟨#[]⟩] 9 (0, 0))).alloc (.cells #[.string ⟨(Lib.repeatL [0] 64).toArray⟩, .string msg, .string (strOfNums (be16 n)), .string ⟨#[0]⟩, .string T] 9 (0, 0))) (w.heap.size + 1) 0 [⟨(Lib.repeatL [0] 64).toArray⟩, msg, strOfNums (be16 n), ⟨#[0]⟩, T] := by
  have e := newc_a (w.alloc (.cells #[.string ⟨#[]⟩] 9 (0, 0))) T msg n
  rw [World.size_alloc] at e
  exact e
theorem newc_first (w : World) (T msg : ByteArray) (n : Int) : LA ((w.alloc (.cells #[.string ⟨#[]⟩] 9 (0, 0))).alloc (.cells #[.string ⟨(Lib.repeatL [0] 64).toArray⟩, .string msg, .string (strOfNums (be16 n)), .string ⟨#[0]⟩, .string T] 9 (0, 0))) w.heap.size 9 [.string ⟨#[]⟩] := (LA.new w 9 [.string ⟨#[]⟩]).alloc _
theorem newc_after (w : World) (T msg : ByteArray) (n : Int) : LA ((w.alloc (.cells #[.string ⟨(Lib.repeatL [0] 64).toArray⟩, .string msg, .string (strOfNums (be16 n)), .string ⟨#[0]⟩, .string T] 9 (0, 0))).alloc (.cells #[.string ⟨#[]⟩] 9 (0, 0))) (w.heap.size + 1) 9 [.string ⟨#[]⟩] := by
  have e := LA.new (w.alloc (.cells #[.string ⟨(Lib.repeatL [0] 64).toArray⟩, .string msg, .string (strOfNums (be16 n)), .string ⟨#[0]⟩, .string T] 9 (0, 0))) 9 [.string ⟨#[]⟩]
  rw [World.size_alloc] at e
  exact e
theorem hashOf5_calls (a : Nat) (s1 s2 s3 s4 s5 : ByteArray) (w : World)
    (hps : StrsAt w a 0 [s1, s2, s3, s4, s5]) (hG : Glob w) (hlen : allSize [s1, s2, s3, s4, s5] ≤ 576460752303423488) :
    Calls Tryd.prog 70 #[.slice (some ⟨a, 0, none⟩) 5 5] w fun e w' => e = .returned (.string (shaS (allBytes [s1, s2, s3, s4, s5]))) ∧ Below w.heap.size w w' :=
  hashOf_calls a 5 0 [s1, s2, s3, s4, s5] w hps (Nat.le_refl _) (show (5 : Nat) ≤ 1000000 by omega) hG hlen
set_option maxHeartbeats 64000000 in
set_option maxRecDepth 100000 in
theorem blocks_calls (msg tag : ByteArray) (n : Int) (w : World) (hG : Glob w) (hm : msg.size ≤ 281474976710656) (ht : tag.size ≤ 255) (h0 : 0 ≤ n) (h1 : n ≤ 8160) :
    Calls Tryd.prog 82 #[.string msg, .string tag, .int .i64 n] w fun e w' => ∃ ai ab al at',
      e = .returned (.func (.func 136) #[] #[.pointer (some ⟨ai, 0, none⟩), .pointer (some ⟨ab, 0, none⟩), .pointer (some ⟨al, 0, none⟩), .pointer (some ⟨at', 0, none⟩)]) ∧
      LA w' ai 5 [.int .u8 0] ∧ LA w' ab 9 [.string (b0S msg tag n)] ∧ LA w' al 9 [.string zero32] ∧ LA w' at' 9 [.string (tagS tag)] ∧
      (w.heap.size ≤ ai ∧ w.heap.size ≤ ab ∧ w.heap.size ≤ al ∧ w.heap.size ≤ at') ∧ (ai ≠ ab ∧ ai ≠ al ∧ ai ≠ at' ∧ al ≠ ab ∧ al ≠ at') ∧ Below w.heap.size w w' := by
  have HG := Aside0.mk hG
  have hcv := conv_arr (w.alloc (.cells #[.int .u8 (tag.size : Int)] 5 (0, 0))) w.heap.size 1 [(tag.size : Int)] rfl (LA.new w 5 [.int .u8 (tag.size : Int)])
  have hcat : (9223372036854775807 < tag.size + (strOfNums [(tag.size : Int)]).size) = False := eq_false (by rw [strOfNums_size]; show ¬ _ < _ + 1; omega)
  have ht1 : LA ((w.alloc (.cells #[.int .u8 (tag.size : Int)] 5 (0, 0))).alloc (.cells #[.string (tag ++ strOfNums [(tag.size : Int)])] 9 (0, 0))) (w.heap.size + 1) 9 [.string (tagS tag)] := by
    have e := LA.new (w.alloc (.cells #[.int .u8 (tag.size : Int)] 5 (0, 0))) 9 [.string (tag ++ strOfNums [(tag.size : Int)])]
    rw [World.size_alloc] at e
    rw [tagS, show (tag.size : Int) % 256 = (tag.size : Int) by omega]
    exact e
  have HT := Aside0.mk ht1
  have HB : Aside0 (Below w.heap.size w ((w.alloc (.cells #[.int .u8 (tag.size : Int)] 5 (0, 0))).alloc (.cells #[.string (tag ++ strOfNums [(tag.size : Int)])] 9 (0, 0)))) := ⟨((Below.refl _ _).alloc (Nat.le_refl _) _).alloc (by rw [World.size_alloc]; omega) _⟩
  clear hG ht1
  go_enter Tryd.func82, Tryd.ntmps82
  go_upto_region 2 with fail
  clear hcv hcat
  generalize ((w.alloc (.cells #[.int .u8 (tag.size : Int)] 5 (0, 0))).alloc (.cells #[.string (tag ++ strOfNums [(tag.size : Int)])] 9 (0, 0))) = w2 at HT HB ⊢
  have hts : tag.size + 1 = (tagS tag).size := by rw [tagS, ByteArray.size_append, strOfNums_size]; rfl
  have HTS := Aside0.mk hts
  clear hts
  obtain ⟨T, hT⟩ : ∃ T, T = tagS tag := ⟨_, rfl⟩
  have HTE := Aside0.mk hT
  rw [← hT] at HT HTS
  clear hT
  obtain ⟨at', hat⟩ : ∃ at', w.heap.size + 1 = at' := ⟨_, rfl⟩
  have HAT := Aside0.mk hat
  rw [hat] at HT ⊢
  clear hat
  have HS2 : Aside0 (BS w at' T w2.drew) := ⟨⟨HT.out, HB.out.drew⟩⟩
  have hbe : shaS (allBytes [⟨(Lib.repeatL [0] 64).toArray⟩, msg, strOfNums (be16 n), ⟨#[0]⟩, T]) = b0S msg tag n := by rw [HTE.out]; exact b0_eq msg tag n
  have HBE := Aside0.mk hbe
  have HS2a : Aside0 (∀ o, BS w at' T (w2.alloc o).drew) := ⟨fun o => ⟨HT.out.alloc o, (HB.out.alloc HB.out.size o).drew⟩⟩
  have HX2a : Aside0 (LA (w2.alloc (.cells #[.string ⟨#[]⟩] 9 (0, 0))).drew w2.heap.size 9 [.string ⟨#[]⟩]) := ⟨LA.new w2 9 [.string ⟨#[]⟩]⟩
  have BZ := Aside0.mk (b0_size msg T n hm (by have := HTS.out; omega))
  clear hbe
  have hg2 := HG.out.of_below HB.out
  have HG2 := Aside0.mk hg2
  clear hg2
  have hwr : IntKind.u64.wrap n = n := by rw [IntKind.wrap_u64]; omega
  have HWR := Aside0.mk hwr
  clear hwr
  go_cut [8] from 18 to 25 (fun v8 wx => ∃ ab, v8 = .pointer (some ⟨ab, 0, none⟩) ∧ Aside0 (w.heap.size ≤ ab) ∧ Aside0 (LA wx ab 9 [.string (b0S msg tag n)]) ∧ Aside0 (LA wx at' 9 [.string T]) ∧ Aside0 (Below w.heap.size w wx))
  case first =>
    have h64a : (64 : Nat) ≤ 9223372036854775807 := by decide
    have h64b : (⟨#[0]⟩ : ByteArray).size * 64 ≤ 140737488355328 := by decide
    go_region_held3 (fun W => W.cell? ⟨at', 0, none⟩ = some (.string T) ∧ Aside0 (BS w at' T W))
      (first
        | (with_reducible exact BS.inl HS2.out)
        | (with_reducible exact BS.inl (HS2a.out _))
        | (with_reducible exact BS.inl HS3.out)
        | (with_reducible exact BS.inl (HS3.out.alloc _))
        | (with_reducible exact BS.inl HS4.out)
        | (with_reducible exact BS.inl (HS4.out.alloc _))
        | (with_reducible exact BS.inl ((HS4.out.alloc _).alloc _))
        | (with_reducible exact BS.inl HS5.out)
        | (with_reducible exact BS.inl (HS5.out.alloc _))
        | (with_reducible refine BS.inl (HS5.out.set ?_ ?_ _); (focus (have h2 := HT.out.lt; have h3 := HS3.out.t.lt; have h4 := HS4.out.t.lt; omega)); (focus (have h2 := HB.out.size; have h3 := HS3.out.b.size; have h4 := HS4.out.b.size; omega))))
      (first
        | (go_at_call 135; refine (Tryd.strings_Repeat ⟨#[0]⟩ 64 _ h64a h64b).mono ?_; rintro e w3 ⟨rfl, hb3⟩; (first | (with_reducible have HS3 := Aside0.mk (BS.below HS2.out hb3)) | (with_reducible have HS3 := Aside0.mk (BS.below (HS2a.out _) hb3))); (try ((first | (with_reducible have HX3 := Aside0.mk (LA.below HX2a.out hb3))); have q_HX3 := HX3.out.cell (i := 0) (v := .string ⟨#[]⟩) rfl; have f_HX3 := HX3.out.free 0)); have HX3a := Aside0.mk (LA.new w3 9 [.string ⟨#[]⟩]); clear hb3)
        | (go_at_call 98; rw [HWR.out]; refine (impl_bigEndian.calls 10 _ 2 _ _ (be_f2 n)).mono ?_; rintro e w4 ⟨rfl, hb4⟩; (first | (with_reducible have HS4 := Aside0.mk (BS.below HS3.out hb4)) | (with_reducible have HS4 := Aside0.mk (BS.below (HS3.out.alloc _) hb4))); (try ((first | (with_reducible have HX4 := Aside0.mk (LA.below HX3.out hb4)) | (with_reducible have HX4 := Aside0.mk (LA.below HX3a.out hb4))); have q_HX4 := HX4.out.cell (i := 0) (v := .string ⟨#[]⟩) rfl; have f_HX4 := HX4.out.free 0)); have HX4a := Aside0.mk (LA.new w4 9 [.string ⟨#[]⟩]); have SA := Aside0.mk (newc_a w4 T msg n); have SB := Aside0.mk (newc_b w4 T msg n); have SD := Aside0.mk (newc_strs w4 T msg n); have XA := Aside0.mk (newc_first w4 T msg n); have XB := Aside0.mk (newc_after w4 T msg n); clear hb4)
        | (go_at_call 70; (first | (with_reducible refine (hashOf5_calls w4.heap.size _ _ _ _ _ _ SA.out ?_ ?_).mono ?_; (focus exact (HG.out.of_below (HS4.out.alloc _).b)); (focus exact BZ.out)) | (with_reducible refine (hashOf5_calls w4.heap.size _ _ _ _ _ _ SB.out ?_ ?_).mono ?_; (focus exact (HG.out.of_below ((HS4.out.alloc _).alloc _).b)); (focus exact BZ.out)) | (with_reducible refine (hashOf5_calls (w4.heap.size + 1) _ _ _ _ _ _ SD.out ?_ ?_).mono ?_; (focus exact (HG.out.of_below ((HS4.out.alloc _).alloc _).b)); (focus exact BZ.out))); rintro e w5 ⟨rfl, hb5⟩; rw [HBE.out]; (first | (with_reducible have HS5 := Aside0.mk (BS.below (HS4.out.alloc _) hb5)) | (with_reducible have HS5 := Aside0.mk (BS.below ((HS4.out.alloc _).alloc _) hb5))); (try ((first | (with_reducible have HX5 := Aside0.mk (LA.below (HX4.out.alloc _) hb5)) | (with_reducible have HX5 := Aside0.mk (LA.below XA.out hb5)) | (with_reducible have HX5 := Aside0.mk (LA.below XB.out hb5))); have q_HX5 := HX5.out.cell (i := 0) (v := .string ⟨#[]⟩) rfl; have f_HX5 := HX5.out.free 0)); clear hb5))
    all_goals
      go_wp2_with fail
      go_meet
      have h2 := HT.out.lt
      have h2' := HB.out.size
      have h3 := HS3.out.t.lt
      have h3' := HS3.out.b.size
      have h4 := HS4.out.t.lt
      have h4' := HS4.out.b.size
      have h5' := HS5.out.b.size
      first
        | exact ⟨w5.heap.size, rfl, ⟨h5'⟩, ⟨LA.new w5 _ _⟩, ⟨(HS5.out.alloc _).t⟩, ⟨(HS5.out.alloc _).b⟩⟩
        | (refine ⟨_, rfl, ⟨?_⟩, ⟨HX5.out.set 0 _⟩, ⟨(HS5.out.set ?_ ?_ _).t⟩, ⟨(HS5.out.set ?_ ?_ _).b⟩⟩ <;> omega)
  case rest =>
    obtain ⟨ab, rfl, HL8, HA8, HT8, HB8⟩ := hcut
    clear HG2 HT HB HS2 HS2a HX2a
    go_wp2_with fail
    refine (Tryd.strings_Repeat ⟨#[0]⟩ 32 wc (by decide) (by decide)).mono ?_
    rintro e w6 ⟨rfl, hb6⟩
    have hz : (⟨(Lib.repeatL (⟨#[0]⟩ : ByteArray).data.toList 32).toArray⟩ : ByteArray) = zero32 := rfl
    rw [hz]
    have HA6 := Aside0.mk (HA8.out.below hb6)
    have HT6 := Aside0.mk (HT8.out.below hb6)
    have HB6 : Aside0 (Below w.heap.size w w6) := ⟨below_step HB8.out hb6⟩
    have hlt6 := HA6.out.lt
    have hlt7 := HT6.out.lt
    clear hb6 HA8 HT8 HB8 hz
    go_wp2_with fail
    go_ret
    have h6 := HB6.out.size
    have h8 := HL8.out
    have hat := HAT.out
    rw [HTE.out] at HT6
    refine ⟨w6.heap.size + 1, ab, w6.heap.size, at', rfl, ?_, (HA6.out.alloc _).alloc _, (LA.new w6 9 [.string zero32]).alloc _, (HT6.out.alloc _).alloc _, ⟨by omega, by omega, by omega, by omega⟩, ?_, (HB6.out.alloc HB6.out.size _).alloc (by rw [World.size_alloc]; omega) _⟩
    · have e := LA.new (w6.alloc (.cells #[.string zero32] 9 (0, 0))) 5 [.int .u8 0]
      rw [World.size_alloc] at e
      exact e
    · refine ⟨by omega, by omega, by omega, by omega, by omega⟩
end Go.Proofs.YtfonhiakelmhhaaDoor.P
end
section
namespace Go.Proofs.YtfonhiakelmhhaaDoor.P
open Go.RowKit Go.Proofs.YtfonhiakelmhhaaDoorW.PrintWords Go.Proofs.YtfonhiakelmhhaaDoorW.PrintLast Go.Proofs.YtfonhiakelmhhaaDoorW.PrintMore
set_option linter.unusedVariables false
set_option linter.unusedSimpArgs false

theorem builderF_above {T e : TypeId} {B b : Nat} {bs : List Value} {w w' : World} (h : Lib.IsBuilderF T e B b bs w) (hk : ∀ g, B ≤ g → g < w.heap.size → w'.heap[g]? = w.heap[g]?) : Lib.IsBuilderF T e B b bs w' := by
  have one : ∀ p, Lib.BuilderAtF T e B b p bs w → Lib.BuilderAtF T e B b p bs w' := by
    rintro p ⟨h1, v, h2, h3, h4⟩
    have lt : ∀ g o, w.heap[g]? = some o → g < w.heap.size := by
      intro g o hg
      rcases Nat.lt_or_ge g w.heap.size with h' | h'
      · exact h'
      · simp [Array.getElem?_eq_none h'] at hg
    refine ⟨h1, v, (hk b h1 (lt b _ h2)).trans h2, ⟨h3.1, ?_⟩, h4⟩
    rcases h3.2 with hn | ⟨g, cap, cur, fz, hv, hb, hg, rest⟩
    · exact .inl hn
    · exact .inr ⟨g, cap, cur, fz, hv, hb, (hk g hb (lt g _ hg)).trans hg, rest⟩
  exact h.imp (one _) (one _)

theorem below_mono {B B' : Nat} {w w' : World} (h : Below B' w w') (hB : B ≤ B') : Below B w w' := ⟨h.os, h.tape, h.output, h.size, fun i hi => h.block i (by omega)⟩
theorem BlkIs.keepB {w w' : World} {B ai ab al at' : Nat} {c : Int} {b0 last T : ByteArray} (h : BlkIs w ai ab al at' c b0 last T) (hk : ∀ g, g < B → w'.heap[g]? = w.heap[g]?) (hB : ai < B ∧ ab < B ∧ al < B ∧ at' < B) : BlkIs w' ai ab al at' c b0 last T :=
  ⟨(hk ai hB.1).trans h.i, (hk ab hB.2.1).trans h.b, (hk al hB.2.2.1).trans h.l, (hk at' hB.2.2.2).trans h.t, h.n1, h.n2, h.n3, h.n4, h.n5⟩
def xb (b0 : List Int) (T : ByteArray) : Nat → List Int
  | 0 => List.replicate 32 0
  | j + 1 => xmdN b0 T (xb b0 T j) (j : Int)
theorem xb_length (b0 : List Int) (T : ByteArray) (j : Nat) : (xb b0 T j).length = 32 := by
  cases j with
  | zero => rfl
  | succ j => exact shaNums_length _
theorem bytes_xb (b0 : List Int) (T : ByteArray) (j : Nat) : Bytes (xb b0 T j) := by
  cases j with
  | zero => intro x hx; obtain rfl := List.eq_of_mem_replicate hx; omega
  | succ j => exact bytes_shaNums _
def xAll (b0 : List Int) (T : ByteArray) : Nat → List Int
  | 0 => []
  | j + 1 => xAll b0 T j ++ xb b0 T (j + 1)
theorem xAll_length (b0 : List Int) (T : ByteArray) (j : Nat) : (xAll b0 T j).length = 32 * j := by
  induction j with
  | zero => rfl
  | succ j ih => rw [xAll, List.length_append, ih, xb_length]; omega
theorem xAll_prefix (b0 : List Int) (T : ByteArray) (i j n : Nat) (hn : n ≤ 32 * i) (hij : n ≤ 32 * j) : (xAll b0 T j).take n = (xAll b0 T i).take n := by
  have aux : ∀ d i, n ≤ 32 * i → (xAll b0 T (i + d)).take n = (xAll b0 T i).take n := by
    intro d
    induction d with
    | zero => intro i _; rfl
    | succ d ih =>
      intro i h
      rw [← Nat.add_assoc, xAll, List.take_append_of_le_length (by rw [xAll_length]; omega)]
      exact ih i h
  rcases Nat.le_total i j with h | h
  · obtain ⟨d, rfl⟩ := Nat.exists_eq_add_of_le h
    exact aux d i hn
  · obtain ⟨d, rfl⟩ := Nat.exists_eq_add_of_le h
    exact (aux d j hij).symm
def xmdS (msg tag : ByteArray) (n : Int) : ByteArray := strOfNums ((xAll (bytesOf (b0S msg tag n)) (tagS tag) ((n.toNat + 31) / 32)).take n.toNat)

set_option maxHeartbeats 8000000 in
set_option maxRecDepth 100000 in
theorem expandMsg_calls (msg tag : ByteArray) (n : Int) (w : World) (hG : Glob w) (hm : msg.size ≤ 65535) (ht0 : 1 ≤ tag.size) (ht : tag.size ≤ 255) (h0 : 1 ≤ n) (h1 : n ≤ 8160) :
    Calls Tryd.prog 31 #[.string msg, .string tag, .int .i64 n] w fun e w' => e = .returned (.tuple #[.string (xmdS msg tag n), .bool true]) ∧ Below w.heap.size w w' := by
  have HG := Aside0.mk hG
  have t1 : decide ((tag.size : Int) < 1) = false := decide_eq_false (by omega)
  have t2 : decide ((255 : Int) < (tag.size : Int)) = false := decide_eq_false (by omega)
  have t3 : decide (n < 1) = false := decide_eq_false (by omega)
  have t4 : decide (8160 < n) = false := decide_eq_false (by omega)
  have t5 : decide ((65535 : Int) < (msg.size : Int)) = false := decide_eq_false (by omega)
  clear hG
  go_enter Tryd.func31, Tryd.ntmps31
  go_wp2_with fail
  refine (blocks_calls msg tag n w HG.out (by omega) ht (by omega) h1).mono ?_
  rintro e w1 ⟨ai, ab, al, at', rfl, hi, hb, hl, hT, ⟨p1, p2, p3, p4⟩, ⟨n1, n2, n3, n4, n5⟩, hbl⟩
  obtain ⟨b0, hb0⟩ : ∃ b0, b0 = b0S msg tag n := ⟨_, rfl⟩
  obtain ⟨T, hTe⟩ : ∃ T, T = tagS tag := ⟨_, rfl⟩
  rw [← hb0] at hb
  rw [← hTe] at hT
  have HBE := Aside0.mk hb0
  have HTE := Aside0.mk hTe
  have hbz : b0.size = 32 := by rw [hb0]; exact shaS_size _
  have hTz : T.size ≤ 256 := by rw [hTe, tagS, ByteArray.size_append, strOfNums_size]; show _ + 1 ≤ _; omega
  have hg := HG.out
  have HN : Aside0 (NotG ai ∧ NotG al) := ⟨by
    have g1 := hg.1
    unfold NotG
    omega⟩
  have HIb : Aside0 (BlkIs (w1.alloc (.cells #[.pointer none, .slice none 0 0] 114)) ai ab al at' ((0 : Nat) : Int) b0 (strOfNums (xb (bytesOf b0) T 0)) T) := ⟨⟨hi.alloc _, hb.alloc _, hl.alloc _, hT.alloc _, n1, n2, n3, n4, n5⟩⟩
  have HLT := Aside0.mk (show ai < w1.heap.size ∧ ab < w1.heap.size ∧ al < w1.heap.size ∧ at' < w1.heap.size from ⟨hi.lt, hb.lt, hl.lt, hT.lt⟩)
  have HPP := Aside0.mk (show w.heap.size ≤ ai ∧ w.heap.size ≤ al ∧ w.heap.size ≤ w1.heap.size from ⟨p1, p3, hbl.size⟩)
  have hB0 : Lib.IsBuilderF 114 5 w1.heap.size w1.heap.size [] (w1.alloc (.cells #[.pointer none, .slice none 0 0] 114)) := Lib.IsBuilderF.of (Lib.fresh_isBuilder 114 5 w1)
  have H0 := Aside0.mk hB0
  have HBb : Aside0 (Below w.heap.size w (w1.alloc (.cells #[.pointer none, .slice none 0 0] 114))) := ⟨hbl.alloc hbl.size _⟩
  have HSb : Aside0 (w1.heap.size ≤ (w1.alloc (.cells #[.pointer none, .slice none 0 0] 114)).heap.size) := ⟨by rw [World.size_alloc]; omega⟩
  clear hi hb hl hT p1 p2 p3 p4 n1 n2 n3 n4 n5 hbl hb0 hTe hg hB0 t1 t2 t3 t4 t5
  go_wp2_with fail
  generalize (w1.alloc (.cells #[.pointer none, .slice none 0 0] 114)) = wb at HIb H0 HBb HSb ⊢
  go_loopg [35] 256 (fun gk v35 wr => ∃ j : Nat, j ≤ 255 ∧ gk = 256 - j ∧ Aside0 (BlkIs wr ai ab al at' (j : Int) b0 (strOfNums (xb (bytesOf b0) T j)) T) ∧ Aside0 (Lib.IsBuilderF 114 5 w1.heap.size w1.heap.size (Lib.byteCells ((xAll (bytesOf b0) T j).map fun x => UInt8.ofNat x.toNat)) wr) ∧ Aside0 (Below w.heap.size w wr) ∧ Aside0 (w1.heap.size ≤ wr.heap.size))
  case atStart => exact ⟨0, by omega, rfl, HIb, H0, HBb, HSb⟩
  case round =>
    clear HIb H0 HBb HSb
    obtain ⟨j, hj, hgk, HI, HF, HB, HS⟩ := hrel
    have hlen : (Lib.byteCells ((xAll (bytesOf b0) T j).map fun x => UInt8.ofNat x.toNat)).length = 32 * j := by rw [byteCells_length', xAll_length]
    have HLEN := Aside0.mk hlen
    clear hlen
    go_wp2_with fail
    refine (Tryd.Builder_Len_f w1.heap.size w1.heap.size _ _ HF.out).mono ?_
    rintro e w' ⟨rfl, rfl⟩
    rw [HLEN.out]
    by_cases hlt : 32 * (j : Int) < n
    · have ht2 : decide (((32 * j : Nat) : Int) < n) = true := decide_eq_true (by omega)
      go_wp2_with fail
      refine (blockC_calls ai ab al at' (j : Int) b0 (strOfNums (xb (bytesOf b0) T j)) T w' (HG.out.of_below HB.out) HI.out hbz (by rw [strOfNums_size, xb_length]) hTz (by omega) (by omega) HN.out).mono ?_
      rintro e w3 ⟨rfl, hI3, hf3, hb3⟩
      have e3 : xmdN (bytesOf b0) T (bytesOf (strOfNums (xb (bytesOf b0) T j))) (j : Int) = xb (bytesOf b0) T (j + 1) := by
        rw [bytesOf_strOfNums _ (bytes_xb _ _ _)]
        rfl
      rw [e3] at hI3 ⊢
      have HI3 := Aside0.mk hI3
      have HF3 := Aside0.mk (builderF_above HF.out (fun g h1 h2 => hf3 g h2 (by have := HLT.out.1; omega) (by have := HLT.out.2.2.1; omega)))
      have HB3 : Aside0 (Below w.heap.size w w3) := ⟨HB.out.trans (hb3 _ HPP.out.1 HPP.out.2.1)⟩
      have HS3 : Aside0 (w1.heap.size ≤ w3.heap.size) := ⟨Nat.le_trans HS.out (hb3 0 (Nat.zero_le _) (Nat.zero_le _)).size⟩
      clear hI3 hf3 hb3 e3 HI HF HB HS
      have hl3 : (strOfNums (xb (bytesOf b0) T (j + 1))).size = 32 := by rw [strOfNums_size, xb_length]
      have HL3 := Aside0.mk hl3
      clear hl3
      go_wp2_with fail
      refine (Tryd.Builder_WriteString_f w1.heap.size w1.heap.size _ (strOfNums (xb (bytesOf b0) T (j + 1))) _ HF3.out (by rw [HLEN.out, HL3.out]; omega) HS3.out).mono ?_
      rintro e w4 ⟨rfl, h4, hb4⟩
      have HB4 : Aside0 (Below w.heap.size w w4) := ⟨HB3.out.trans (below_mono hb4 HPP.out.2.2)⟩
      have HS4 : Aside0 (w1.heap.size ≤ w4.heap.size) := ⟨Nat.le_trans HS3.out hb4.size⟩
      have HI4 : Aside0 (BlkIs w4 ai ab al at' ((j : Int) + 1) b0 (strOfNums (xb (bytesOf b0) T (j + 1))) T) := ⟨HI3.out.keepB hb4.block HLT.out⟩
      have HF4 : Aside0 (Lib.IsBuilderF 114 5 w1.heap.size w1.heap.size (Lib.byteCells ((xAll (bytesOf b0) T (j + 1)).map fun x => UInt8.ofNat x.toNat)) w4) := ⟨by
        rw [xAll, List.map_append, Lib.byteCells_append]
        exact .inr h4⟩
      clear h4 hb4 HF3 HB3 HS3 HI3
      go_wp2_with fail
      go_roundg (gk - 1)
      case measure => omega
      case rel => exact ⟨j + 1, by omega, by omega, HI4, HF4, HB4, HS4⟩
    · have ht2 : decide (((32 * j : Nat) : Int) < n) = false := decide_eq_false (by omega)
      go_wp2_with fail
      refine (Tryd.Builder_String_any_f w1.heap.size w1.heap.size _ _ HF.out HS.out).mono ?_
      rintro e w7 ⟨rfl, _, hb7⟩
      obtain ⟨sA, hsA⟩ : ∃ sA : ByteArray, sA = strOfNums (xAll (bytesOf b0) T j) := ⟨_, rfl⟩
      have HSA := Aside0.mk hsA
      have hsz : (sA.size : Int) = 32 * (j : Int) := by rw [hsA, strOfNums_size, xAll_length]; omega
      have hnn : n.toNat ≤ sA.size := by omega
      have hn2 : n ≤ (sA.size : Int) := by omega
      have hn3 : ((0 : Int) ≤ n) = True := eq_true (by omega)
      rw [show ({ data := (List.map (fun x => UInt8.ofNat x.toNat) (xAll (bytesOf b0) T j)).toArray } : ByteArray) = sA from hsA.symm]
      have HJ := Aside0.mk (show n.toNat ≤ 32 * j by omega)
      clear hsA hsz ht2 hlt
      go_wp2_with fail
      go_ret2
      refine ⟨?_, HB.out.trans (below_mono hb7 HPP.out.2.2)⟩
      rw [HSA.out, strOfNums_extract, xmdS, ← HBE.out, ← HTE.out, ← xAll_prefix (bytesOf b0) T ((n.toNat + 31) / 32) j n.toNat (by omega) HJ.out]
      rfl

def impl_ExpandMessage.f (a0 a1 : ByteArray) (a2 : Int) : Option (ByteArray × Bool) :=
  if a0.size ≤ 281474976710656 ∧ a1.size ≤ 281474976710656 then some (if a1.size < 1 then (⟨#[]⟩, false) else if 255 < a1.size then (⟨#[]⟩, false) else if a2 < 1 then (⟨#[]⟩, false) else if 8160 < a2 then (⟨#[]⟩, false) else if 65535 < a0.size then (⟨#[]⟩, false) else (xmdS a0 a1 a2, true)) else none
set_option maxHeartbeats 4000000 in
set_option maxRecDepth 100000 in
theorem impl_ExpandMessage.calls_at (a0 a1 : ByteArray) (a2 : Int) (r : ByteArray × Bool) (w : World) (h : impl_ExpandMessage.f a0 a1 a2 = some r) (hG : Glob w) :
    Calls Tryd.prog 31 #[.string a0, .string a1, .int .i64 a2] w fun e w' => e = .returned (.tuple #[.string r.1, .bool r.2]) ∧ Below w.heap.size w w' := by
  unfold impl_ExpandMessage.f at h
  split at h
  · obtain rfl := Option.some.inj h
    clear h
    by_cases h0 : a1.size < 1
    · rw [if_pos h0]
      have t1 : decide ((a1.size : Int) < 1) = true := decide_eq_true (by omega)
      go_enter Tryd.func31, Tryd.ntmps31
      go_wp2
      go_ret2
      exact ⟨rfl, Below.refl _ _⟩
    rw [if_neg h0]
    have t1 : decide ((a1.size : Int) < 1) = false := decide_eq_false (by omega)
    by_cases h1 : 255 < a1.size
    · rw [if_pos h1]
      have t2 : decide ((255 : Int) < (a1.size : Int)) = true := decide_eq_true (by omega)
      go_enter Tryd.func31, Tryd.ntmps31
      go_wp2
      go_ret2
      exact ⟨rfl, Below.refl _ _⟩
    rw [if_neg h1]
    have t2 : decide ((255 : Int) < (a1.size : Int)) = false := decide_eq_false (by omega)
    by_cases h2 : a2 < 1
    · rw [if_pos h2]
      have t3 : decide (a2 < 1) = true := decide_eq_true (by omega)
      go_enter Tryd.func31, Tryd.ntmps31
      go_wp2
      go_ret2
      exact ⟨rfl, Below.refl _ _⟩
    rw [if_neg h2]
    have t3 : decide (a2 < 1) = false := decide_eq_false (by omega)
    by_cases h3 : 8160 < a2
    · rw [if_pos h3]
      have t4 : decide (8160 < a2) = true := decide_eq_true (by omega)
      go_enter Tryd.func31, Tryd.ntmps31
      go_wp2
      go_ret2
      exact ⟨rfl, Below.refl _ _⟩
    rw [if_neg h3]
    have t4 : decide (8160 < a2) = false := decide_eq_false (by omega)
    by_cases h4 : 65535 < a0.size
    · rw [if_pos h4]
      have t5 : decide ((65535 : Int) < (a0.size : Int)) = true := decide_eq_true (by omega)
      go_enter Tryd.func31, Tryd.ntmps31
      go_wp2
      go_ret2
      exact ⟨rfl, Below.refl _ _⟩
    rw [if_neg h4]
    exact expandMsg_calls a0 a1 a2 w hG (by omega) (by omega) (by omega) (by omega) (by omega)
  · exact absurd h (by simp)
theorem impl_ExpandMessage.calls (a0 a1 : ByteArray) (a2 : Int) (r1 : ByteArray) (r2 : Bool) (w : World) (h : impl_ExpandMessage.f a0 a1 a2 = some (r1, r2)) (hG : Glob w) :
    Calls Tryd.prog 31 #[.string a0, .string a1, .int .i64 a2] w fun e w' => e = .returned (.tuple #[.string r1, .bool r2]) ∧ Below w.heap.size w w' := impl_ExpandMessage.calls_at a0 a1 a2 (r1, r2) w h hG
end Go.Proofs.YtfonhiakelmhhaaDoor.P
end
section
namespace Go.Proofs.YtfonhiakelmhhaaDoor.P
open Go.RowKit Go.Proofs.YtfonhiakelmhhaaDoorW.PrintWords Go.Proofs.YtfonhiakelmhhaaDoorW.PrintLast Go.Proofs.YtfonhiakelmhhaaDoorW.PrintMore
set_option linter.unusedVariables false
set_option linter.unusedSimpArgs false

def bits_Div64.f (hi lo y : Int) : Option (Int × Int) :=
  if 0 ≤ hi ∧ hi < y ∧ y < 18446744073709551616 ∧ 0 ≤ lo ∧ lo < 18446744073709551616 then some ((hi * 18446744073709551616 + lo) / y, (hi * 18446744073709551616 + lo) % y) else none

theorem div_round {un32 a b c Q R : Int} (h : DivHyp un32 a b c) (hI : DivInv un32 a b c Q R)
    (ht : 4294967296 ≤ Q ∨ IntKind.u64.wrap (IntKind.u64.wrap (4294967296 * R) + c) < IntKind.u64.wrap (Q * b)) (hr : IntKind.u64.wrap (R + a) < 4294967296) :
    (∃ Q_1 R_1 : Int, Value.int IntKind.u64 (IntKind.u64.wrap (Q - 1)) = Value.int IntKind.u64 Q_1 ∧ Value.int IntKind.u64 (IntKind.u64.wrap (R + a)) = Value.int IntKind.u64 R_1 ∧ Aside0 (DivInv un32 a b c Q_1 R_1)) ∧
      (intOf (Value.int IntKind.u64 (IntKind.u64.wrap (Q - 1)))).toNat < (intOf (Value.int IntKind.u64 Q)).toNat := by
  obtain ⟨e1, e2, e3⟩ := div_next h hI ht
  rw [e2] at hr
  rw [e1, e2]
  refine ⟨⟨_, _, rfl, rfl, ⟨h.step hI (div_test h hI ht) hr⟩⟩, ?_⟩
  simp only [intOf]
  omega
theorem div_out {un32 a b c Q R D : Int} (h : DivHyp un32 a b c) (hI : DivInv un32 a b c Q R) (hD : (un32 * 4294967296 + c) / (a * 4294967296 + b) = D)
    (ht : 4294967296 ≤ Q ∨ IntKind.u64.wrap (IntKind.u64.wrap (4294967296 * R) + c) < IntKind.u64.wrap (Q * b)) (hr : 4294967296 ≤ IntKind.u64.wrap (R + a)) :
    Value.int IntKind.u64 (IntKind.u64.wrap (Q - 1)) = .int .u64 D := by
  obtain ⟨e1, e2, e3⟩ := div_next h hI ht
  rw [e2] at hr
  rw [e1, h.exit2 hI (div_test h hI ht) hr, hD]
theorem div_out1 {un32 a b c Q R D : Int} (h : DivHyp un32 a b c) (hI : DivInv un32 a b c Q R) (hD : (un32 * 4294967296 + c) / (a * 4294967296 + b) = D)
    (ht : Q < 4294967296 ∧ IntKind.u64.wrap (Q * b) ≤ IntKind.u64.wrap (IntKind.u64.wrap (4294967296 * R) + c)) :
    Value.int IntKind.u64 Q = .int .u64 D := by
  rw [div_test1 h hI ht, hD]

set_option maxHeartbeats 8000000 in
set_option maxRecDepth 100000 in
theorem div64_walk (hi lo y s Y a b un32 un10 c d u21 qs rs qs2 rs2 QQ RR : Int) (w : World) (h0 : 0 < hi) (h1 : hi < y) (h2 : y ≤ 18446744073709551615) (h3 : 0 ≤ lo) (h4 : lo ≤ 18446744073709551615)
    (hs : Aside0 (64 - (Lib.bitLen y.toNat : Int) = s)) (hs0 : 0 ≤ s) (hs1 : s ≤ 63)
    (eY : IntKind.u64.wrap (y * 2 ^ s.toNat) = Y) (ea : Y / 4294967296 = a) (eb : bits .and .u64 Y 4294967295 = b)
    (e32 : bits .or .u64 (IntKind.u64.wrap (hi * 2 ^ s.toNat)) (lo / 2 ^ (64 - s).toNat) = un32)
    (e10 : IntKind.u64.wrap (lo * 2 ^ s.toNat) = un10) (ec : un10 / 4294967296 = c) (ed : bits .and .u64 un10 4294967295 = d)
    (ha : ¬ a = 0) (eq : IntKind.u64.wrap (un32.tdiv a) = qs) (er : IntKind.u64.wrap (un32 - IntKind.u64.wrap (qs * a)) = rs)
    (H1 : Aside0 (DivHyp un32 a b c)) (I1 : Aside0 (DivInv un32 a b c qs rs))
    (e17 : IntKind.u64.wrap (IntKind.u64.wrap (IntKind.u64.wrap (un32 * 4294967296) + c) - IntKind.u64.wrap ((un32 * 4294967296 + c) / (a * 4294967296 + b) * Y)) = u21)
    (eq2 : IntKind.u64.wrap (u21.tdiv a) = qs2) (er2 : IntKind.u64.wrap (u21 - IntKind.u64.wrap (qs2 * a)) = rs2)
    (H2 : Aside0 (DivHyp u21 a b d)) (I2 : Aside0 (DivInv u21 a b d qs2 rs2))
    (e6 : IntKind.u64.wrap (IntKind.u64.wrap ((un32 * 4294967296 + c) / (a * 4294967296 + b) * 4294967296) + (u21 * 4294967296 + d) / (a * 4294967296 + b)) = QQ)
    (e7 : IntKind.u64.wrap (IntKind.u64.wrap (IntKind.u64.wrap (u21 * 4294967296) + d) - IntKind.u64.wrap ((u21 * 4294967296 + d) / (a * 4294967296 + b) * Y)) / 2 ^ s.toNat = RR)
    : Calls Tryd.prog 83 #[.int .u64 hi, .int .u64 lo, .int .u64 y] w fun e w' => e = .returned (.tuple #[.int .u64 QQ, .int .u64 RR]) ∧ w' = w := by
  have t1 : (y == 0) = false := by rw [beq_eq_false_iff_ne]; omega
  have t2 : decide (y ≤ hi) = false := decide_eq_false (by omega)
  have t3 : (hi == 0) = false := by rw [beq_eq_false_iff_ne]; omega
  obtain ⟨D1, hD1⟩ : ∃ D1, (un32 * 4294967296 + c) / (a * 4294967296 + b) = D1 := ⟨_, rfl⟩
  obtain ⟨D2, hD2⟩ : ∃ D2, (u21 * 4294967296 + d) / (a * 4294967296 + b) = D2 := ⟨_, rfl⟩
  rw [hD1] at e17 e6
  rw [hD2] at e6 e7
  have HD1 := Aside0.mk hD1
  have HD2 := Aside0.mk hD2
  clear hD1 hD2
  go_enter Tryd.func83, Tryd.ntmps83
  go_upto_block 0 with (go_at_call 137; refine (Tryd.bits_LeadingZeros64 y _ (by omega) h2).mono ?_; rintro e w1 ⟨rfl, hw1⟩; rw [hw1, hs.out]; clear hw1)
  go_cut [15] (fun v15 wc => v15 = .int .u64 D1 ∧ w = wc)
  case first =>
    go_wp2_with fail
    go_loop [15, 16] (fun v15 v16 => ∃ Q R : Int, v15 = .int .u64 Q ∧ v16 = .int .u64 R ∧ Aside0 (DivInv un32 a b c Q R)) (fun v15 _ => (intOf v15).toNat)
    case atStart => exact ⟨qs, rs, rfl, rfl, I1⟩
    case round =>
      clear e17 eq2 er2 e6 e7 eY ea eb e32 e10 ec ed eq er
      obtain ⟨Q, R, rfl, rfl, hI⟩ := hrel
      go_wp2
      all_goals first
        | exact div_round H1.out hI.out (by first | assumption | (left; omega)) (by assumption)
        | (go_meet; exact ⟨div_out H1.out hI.out HD1.out (by first | assumption | (left; assumption)) (by assumption), rfl⟩)
        | (go_meet; exact ⟨div_out1 H1.out hI.out HD1.out (by assumption), rfl⟩)
  case rest =>
    obtain ⟨rfl, rfl⟩ := hcut
    go_upto_block 2 with fail
    go_cut [18] (fun v18 wc => v18 = .int .u64 D2 ∧ w = wc)
    case first =>
      go_wp2_with fail
      go_loop [18, 16] (fun v15 v16 => ∃ Q R : Int, v15 = .int .u64 Q ∧ v16 = .int .u64 R ∧ Aside0 (DivInv u21 a b d Q R)) (fun v15 _ => (intOf v15).toNat)
      case atStart => exact ⟨qs2, rs2, rfl, rfl, I2⟩
      case round =>
        clear e17 eq2 er2 e6 e7 eY ea eb e32 e10 ec ed eq er
        obtain ⟨Q, R, rfl, rfl, hI⟩ := hrel
        go_wp2
        all_goals first
          | exact div_round H2.out hI.out (by first | assumption | (left; omega)) (by assumption)
          | (go_meet; exact ⟨div_out H2.out hI.out HD2.out (by first | assumption | (left; assumption)) (by assumption), rfl⟩)
          | (go_meet; exact ⟨div_out1 H2.out hI.out HD2.out (by assumption), rfl⟩)
    case rest =>
      obtain ⟨rfl, rfl⟩ := hcut
      go_wp2
      go_ret2
      exact ⟨rfl, rfl⟩

set_option maxRecDepth 100000 in
theorem div64_low (lo y : Int) (w : World) (h1 : 0 < y) (h2 : y ≤ 18446744073709551615) (h3 : 0 ≤ lo) (h4 : lo ≤ 18446744073709551615) :
    Calls Tryd.prog 83 #[.int .u64 0, .int .u64 lo, .int .u64 y] w fun e w' => e = .returned (.tuple #[.int .u64 (lo / y), .int .u64 (lo % y)]) ∧ Drawn0 w w' := by
  have t1 : (y == 0) = false := by rw [beq_eq_false_iff_ne]; omega
  have t2 : decide (y ≤ 0) = false := decide_eq_false (by omega)
  have t4 : ¬ y = 0 := by omega
  have e1 : IntKind.u64.wrap (lo.tdiv y) = lo / y := by
    rw [Int.tdiv_eq_ediv_of_nonneg h3, w64 (Int.ediv_nonneg h3 (by omega)) (by have := Int.ediv_le_self y h3; omega)]
  have e2 : lo.tmod y = lo % y := Int.tmod_eq_emod_of_nonneg h3
  go_enter Tryd.func83, Tryd.ntmps83
  go_wp2_with fail
  go_quiet (fail)
  go_wp2
  go_ret2
  exact ⟨rfl, by repeat (first | exact Drawn0.refl _ | apply Drawn0.step)⟩

theorem bits_Div64.calls (a0 a1 a2 r1 r2 : Int) (w : World) (h : bits_Div64.f a0 a1 a2 = some (r1, r2)) :
    Calls Tryd.prog 83 #[.int .u64 a0, .int .u64 a1, .int .u64 a2] w fun e w' => e = .returned (.tuple #[.int .u64 r1, .int .u64 r2]) ∧ Drawn0 w w' := by
  unfold bits_Div64.f at h
  split at h
  case isFalse => cases h
  case isTrue hc =>
  obtain ⟨h0, h1, h2, h3, h4⟩ := hc
  have hh := Option.some.inj h
  obtain ⟨rfl, rfl⟩ : _ = r1 ∧ _ = r2 := ⟨congrArg Prod.fst hh, congrArg Prod.snd hh⟩
  clear h hh
  rcases Int.lt_or_le 0 a0 with hp | hp
  · obtain ⟨s0, s1, s2, s3⟩ := lz_facts (y := a2) (by omega) (by omega)
    generalize hs : 64 - (Lib.bitLen a2.toNat : Int) = s at *
    obtain ⟨k, rfl⟩ := Int.eq_ofNat_of_zero_le s0
    have ek : (k : Int).toNat = k := rfl
    have ek' : (64 - (k : Int)).toNat = 64 - k := by omega
    rw [ek] at s2 s3
    have p0 : (0 : Int) < 2 ^ k := Int.pow_pos (by omega)
    have p1 : (0 : Int) < 2 ^ (64 - k) := Int.pow_pos (by omega)
    have pp : (2 : Int) ^ (64 - k) * 2 ^ k = 18446744073709551616 := by rw [← Int.pow_add, show 64 - k + k = 64 by omega]; rfl
    obtain ⟨c1, c2, c3, c4⟩ := scaled p0 p1 pp h1 h3 (show a1 ≤ 18446744073709551615 by omega)
    have y0 : 0 ≤ a0 * 2 ^ k := Int.mul_nonneg h0 (by omega)
    have hY : IntKind.u64.wrap (a2 * 2 ^ k) = a2 * 2 ^ k := w64 (by omega) s3
    have hH : IntKind.u64.wrap (a0 * 2 ^ k) = a0 * 2 ^ k := w64 y0 (by omega)
    have hor : bits .or .u64 (a0 * 2 ^ k) (a1 / 2 ^ (64 - k)) = a0 * 2 ^ k + a1 / 2 ^ (64 - k) := or_low rfl (by omega) h0 (by omega) c4 c3
    have m0 := Int.emod_nonneg (a1 * 2 ^ k) (b := 18446744073709551616) (by omega)
    have m1 := Int.emod_lt_of_pos (a1 * 2 ^ k) (b := 18446744073709551616) (by omega)
    have h10 : IntKind.u64.wrap (a1 * 2 ^ k) = (a1 * 2 ^ k) % 18446744073709551616 := IntKind.wrap_u64 _
    generalize hun : a0 * 2 ^ k + a1 / 2 ^ (64 - k) = un32 at *
    generalize hu10 : (a1 * 2 ^ k) % 18446744073709551616 = un10 at *
    generalize hYY : a2 * 2 ^ k = Y at *
    have H1 : DivHyp un32 (Y / 4294967296) (Y % 4294967296) (un10 / 4294967296) := ⟨by omega, by omega, by omega, by omega, by omega, by omega, by omega, by omega⟩
    have hYe : Y / 4294967296 * 4294967296 + Y % 4294967296 = Y := by omega
    obtain ⟨d1, d2, d3, d4, d5, d6⟩ := digits (V := a0 * 18446744073709551616 + a1) (y := a2) (p := 2 ^ k) (Y := Y) (D := un32 * 4294967296 + un10 / 4294967296) (d := un10 % 4294967296) p0 (by omega) hYY.symm (by rw [← c1]; omega) rfl rfl
    have q0 : 0 ≤ (un32 * 4294967296 + un10 / 4294967296) / Y := Int.ediv_nonneg (by omega) (by omega)
    have q1 := H1.small
    rw [hYe] at q1
    generalize hD1 : (un32 * 4294967296 + un10 / 4294967296) / Y = D1 at *
    have b1 : 0 ≤ D1 * Y := Int.mul_nonneg q0 (by omega)
    generalize hu21 : un32 * 4294967296 + un10 / 4294967296 - D1 * Y = u21 at *
    have H2 : DivHyp u21 (Y / 4294967296) (Y % 4294967296) (un10 % 4294967296) := ⟨by omega, by omega, by omega, by omega, by omega, by omega, by omega, by omega⟩
    have q2 : 0 ≤ (u21 * 4294967296 + un10 % 4294967296) / Y := Int.ediv_nonneg (by omega) (by omega)
    have q3 := H2.small
    rw [hYe] at q3
    generalize hD2 : (u21 * 4294967296 + un10 % 4294967296) / Y = D2 at *
    have I1 := H1.start
    have I2 := H2.start
    have i1 := DivInv.upper H1 I1
    have i2 := DivInv.upper H2 I2
    have v1 : IntKind.u64.wrap (un32.tdiv (Y / 4294967296)) = un32 / (Y / 4294967296) := by
      rw [Int.tdiv_eq_ediv_of_nonneg H1.u0, w64 I1.1 (by omega)]
    have v2 : IntKind.u64.wrap (u21.tdiv (Y / 4294967296)) = u21 / (Y / 4294967296) := by
      rw [Int.tdiv_eq_ediv_of_nonneg H2.u0, w64 I2.1 (by omega)]
    have m2 : ∀ x : Int, 0 ≤ x → x ≤ 18446744073709551615 → IntKind.u64.wrap (x - IntKind.u64.wrap (x / (Y / 4294967296) * (Y / 4294967296))) = x % (Y / 4294967296) := by
      intro x hx hx'
      have e := Int.mul_ediv_add_emod x (Y / 4294967296)
      rw [Int.mul_comm] at e
      have e0 := Int.emod_nonneg x (b := Y / 4294967296) (by omega)
      have e1 := Int.emod_lt_of_pos x (b := Y / 4294967296) (by omega)
      have e2 : 0 ≤ x / (Y / 4294967296) * (Y / 4294967296) := Int.mul_nonneg (Int.ediv_nonneg hx (by omega)) (by omega)
      rw [w64 e2 (by omega), w64 (by omega) (by omega)]
      omega
    have r2' : IntKind.u64.wrap (IntKind.u64.wrap (IntKind.u64.wrap (un32 * 4294967296) + un10 / 4294967296) - IntKind.u64.wrap (D1 * Y)) = u21 := by
      simp only [IntKind.wrap_u64]
      omega
    have r3 : IntKind.u64.wrap (IntKind.u64.wrap (IntKind.u64.wrap (u21 * 4294967296) + un10 % 4294967296) - IntKind.u64.wrap (D2 * Y)) = u21 * 4294967296 + un10 % 4294967296 - D2 * Y := by
      simp only [IntKind.wrap_u64]
      omega
    have r4 : IntKind.u64.wrap (IntKind.u64.wrap (D1 * 4294967296) + D2) = D1 * 4294967296 + D2 := by
      simp only [IntKind.wrap_u64]
      omega
    rw [← d1, ← d2]
    refine (div64_walk a0 a1 a2 k Y (Y / 4294967296) (Y % 4294967296) un32 un10 (un10 / 4294967296) (un10 % 4294967296) u21 (un32 / (Y / 4294967296)) (un32 % (Y / 4294967296)) (u21 / (Y / 4294967296)) (u21 % (Y / 4294967296)) (D1 * 4294967296 + D2) ((u21 * 4294967296 + un10 % 4294967296 - D2 * Y) / 2 ^ k) w hp h1 (by omega) h3 (by omega) ⟨hs⟩ s0 s1
      (by rw [ek, hYY]; exact hY) rfl (and_low (by omega) s3) (by rw [ek, ek', hH]; exact hor) (by rw [ek]; exact h10) rfl (and_low m0 (by omega)) (by omega) v1 (m2 un32 (by omega) (by omega)) ⟨H1⟩ ⟨I1⟩
      (by rw [hYe, hD1]; exact r2') v2 (m2 u21 (by omega) (by omega)) ⟨H2⟩ ⟨I2⟩ (by rw [hYe, hD1, hD2]; exact r4) (by rw [hYe, hD2, r3, ek])).mono ?_
    rintro e w' ⟨rfl, rfl⟩
    exact ⟨rfl, Drawn0.refl _⟩
  · obtain rfl : a0 = 0 := by omega
    have := div64_low a1 a2 w h1 (by omega) h3 (by omega)
    rw [show (0 : Int) * 18446744073709551616 + a1 = a1 by omega]
    exact this
end Go.Proofs.YtfonhiakelmhhaaDoor.P
end
section
namespace Go.Proofs.YtfonhiakelmhhaaDoor.P
open Go.RowKit Go.Proofs.YtfonhiakelmhhaaDoorW.PrintWords Go.Proofs.YtfonhiakelmhhaaDoorW.PrintLast Go.Proofs.YtfonhiakelmhhaaDoorW.PrintMore
set_option linter.unusedVariables false
set_option linter.unusedSimpArgs false

mutual
def impl_Reduce.j0 : Nat → ByteArray → Int → Bool → Option (Int)
  | 0, _, _, _ => none
  | k + 1, x0, x1, x13 => if x13 = true then (some 0) else (impl_Reduce.l0 k x0 x1 0 (x0.size : Int) 0)
def impl_Reduce.l0 : Nat → ByteArray → Int → Int → Int → Int → Option (Int)
  | 0, _, _, _, _, _ => none
  | k + 1, x0, x1, x5, x15, x16 => if x16 < x15 then (if 0 ≤ x16 then (if x16 < (x0.size : Int) then ((bits_Div64.f (x5 / 72057594037927936) (Go.bits .or .u64 (IntKind.u64.wrap (x5 * 256)) (IntKind.u64.wrap (bt x0 x16))) x1).bind fun bt501 => (impl_Reduce.l0 k x0 x1 bt501.2 x15 (wrap64 (x16 + 1)))) else (none)) else (none)) else (some x5)
end
def impl_Reduce.f (k : Nat) (a0 : ByteArray) (a1 : Int) : Option (Int) := if a1 = 0 then (impl_Reduce.j0 k a0 a1 true) else (impl_Reduce.j0 k a0 a1 (decide ((a0.size : Int) > 65535)))
set_option maxHeartbeats 8000000 in
set_option maxRecDepth 100000 in
theorem impl_Reduce.calls (k : Nat) (a0 : ByteArray) (a1 : Int) (r : Int) (w : World) (h : impl_Reduce.f k a0 a1 = some r) :
    Calls Tryd.prog 33 #[.string a0, .int .u64 a1] w fun e w' => e = .returned (.int .u64 r) ∧ Drawn0 w w' := by
  have H : (if a1 = 0 then (impl_Reduce.j0 k a0 a1 true) else (impl_Reduce.j0 k a0 a1 (decide ((a0.size : Int) > 65535)))) = some r := h
  clear h
  have HC3 := Aside0.mk H
  clear H
  go_enter Tryd.func33, Tryd.ntmps33
  go_upto_region 1 with (fail)
  go_cut [13] (fun v13 wc => ∃ (kq : Nat) (x13_2 : Bool), v13 = .bool x13_2 ∧ Aside0 (impl_Reduce.j0 kq a0 a1 x13_2 = some r) ∧ Aside0 (kq ≤ k) ∧ Drawn0 w wc)
  case first =>
    have H := HC3.out
    clear HC3
    by_cases c4 : a1 = 0
    · rw [if_pos c4] at H
      have c4b0 : (a1 == 0) = true := beq_iff_eq.mpr c4
      have c4b1 : (a1 != 0) = false := bne_eq_false_iff_eq.mpr c4
      clear c4
      (first | rw [c4b0] | (simp only [i64_w, i32_w]; rw [c4b0]) | skip)
      have H' := Aside0.mk H
      clear H
      go_wp2
      go_meet
      case rel => exact ⟨_, (true), (by first | rfl | (simp; done) | (simp [*]; done)), H', ⟨by first | omega | exact Nat.le_refl _⟩, by repeat (first | exact Drawn0.refl _ | apply Drawn0.step)⟩
    · rw [if_neg c4] at H
      have c4b0 : (a1 == 0) = false := beq_eq_false_iff_ne.mpr c4
      have c4b1 : (a1 != 0) = true := bne_iff_ne.mpr c4
      (first | rw [c4b0] | (simp only [i64_w, i32_w]; rw [c4b0]) | skip)
      have H' := Aside0.mk H
      clear H
      go_wp2
      go_meet
      case rel => exact ⟨_, (decide ((a0.size : Int) > 65535)), (by first | rfl | (simp; done) | (simp [*]; done)), H', ⟨by first | omega | exact Nat.le_refl _⟩, by repeat (first | exact Drawn0.refl _ | apply Drawn0.step)⟩
  case rest =>
    clear HC3
    try clear p2
    try clear c3
    try clear c4
    try clear c4b0
    try clear c4b1
    obtain ⟨kq, x13_2, rfl, HA, HJ2, ⟨mc2, rfl⟩⟩ := hcut
    cases kq with
    | zero => exact absurd HA.out (by simp [impl_Reduce.j0])
    | succ kj2 =>
      have H := HA.out
      clear HA
      simp only [impl_Reduce.j0] at H
      by_cases c5 : x13_2 = true
      · subst c5
        have H1 : (some 0) = some r := by rw [if_pos rfl] at H; exact H
        clear H
        have H := H1
        clear H1
        obtain rfl := Option.some.inj H
        go_wp2
        go_ret
        exact ⟨by first | rfl | (simp; done) | (simp [*]; done), by repeat (first | exact Drawn0.refl _ | apply Drawn0.step)⟩
      · replace c5 := Bool.eq_false_iff.mpr c5
        subst c5
        have H1 : (impl_Reduce.l0 kj2 a0 a1 0 (a0.size : Int) 0) = some r := by rw [if_neg (show ¬ (false = true) by decide)] at H; exact H
        clear H
        have H := H1
        clear H1
        have H' := Aside0.mk H
        clear H
        go_wp2
        go_loopg [5, 16] kj2 (fun kq v5 v16 w' => ∃ (x5_2 : Int) (x16_2 : Int), v5 = .int .u64 x5_2 ∧ v16 = .int .i64 x16_2 ∧ Aside0 (impl_Reduce.l0 kq a0 a1 x5_2 (a0.size : Int) x16_2 = some r) ∧ Aside0 (kq ≤ kj2) ∧ Drawn0 w w')
        case atStart => exact ⟨(0), (0), (by first | rfl | (simp; done) | (simp [*]; done)), (by first | rfl | (simp; done) | (simp [*]; done)), H', ⟨Nat.le_refl _⟩, by repeat (first | exact Drawn0.refl _ | apply Drawn0.step)⟩
        case round =>
          clear H'
          try clear c2
          try clear p2
          try clear c3
          try clear c4
          try clear c4b0
          try clear c4b1
          try clear c5
          try clear p2
          obtain ⟨x5_2, x16_2, rfl, rfl, HA, HK2, ⟨m2, rfl⟩⟩ := hrel
          cases gk with
          | zero => exact absurd HA.out (by simp [impl_Reduce.l0])
          | succ k2 =>
            have H := HA.out
            clear HA
            simp only [impl_Reduce.l0] at H
            by_cases c6 : x16_2 < (a0.size : Int)
            · rw [if_pos c6] at H
              have c6b0 : decide (x16_2 < (a0.size : Int)) = true := decide_eq_true c6
              clear c6
              by_cases c7 : 0 ≤ x16_2
              · rw [if_pos c7] at H
                have c7b0 : decide (0 ≤ x16_2) = true := decide_eq_true c7
                clear c7
                by_cases c8 : x16_2 < (a0.size : Int)
                · rw [if_pos c8] at H
                  have c8b0 : decide (x16_2 < (a0.size : Int)) = true := decide_eq_true c8
                  clear c8
                  replace H := Option.bind_eq_some_iff.mp H
                  obtain ⟨⟨t501, t502⟩, A100, H⟩ := H
                  replace H : (impl_Reduce.l0 k2 a0 a1 t502 (a0.size : Int) (wrap64 (x16_2 + 1))) = some r := H
                  have A10 := Aside0.mk A100
                  clear A100
                  have H' := Aside0.mk H
                  clear H
                  have p9 : 0 ≤ (x16_2 : Int) := of_decide_eq_true (by first | (with_reducible assumption) | assumption)
                  have q9 : x16_2 < (a0.size : Int) := of_decide_eq_true (by first | (with_reducible assumption) | assumption)
                  have hx9 := bt_at a0 x16_2
                  replace p9 := eq_true p9
                  replace q9 := eq_true q9
                  go_wp2_with (first | ((with_reducible refine gate_callee (f := 83) rfl ?_); refine goesL_ (some 30) rfl rfl Tryd.func83 (by kernel_rfl) rfl #[.int .u64 (x5_2 / 72057594037927936), .int .u64 (Go.bits .or .u64 (IntKind.u64.wrap (x5_2 * 256)) (IntKind.u64.wrap (bt a0 x16_2))), .int .u64 a1] rfl (by (try simp only [List.map_toArray, List.map_cons, List.map_nil]); first | done | rfl | (simp only [List.length_drop, List.length_take]; rfl)) ?_; (with_reducible refine (bits_Div64.calls (x5_2 / 72057594037927936) (Go.bits .or .u64 (IntKind.u64.wrap (x5_2 * 256)) (IntKind.u64.wrap (bt a0 x16_2))) a1 t501 t502 _ A10.out).mono ?_); rintro e w' ⟨rfl, ⟨nd, rfl⟩⟩; refine ⟨_, rfl, ?_⟩))
                  go_roundg k2
                  case measure => have := HJ2.out; have := HK2.out; omega
                  case rel => exact ⟨(t502), (wrap64 (x16_2 + 1)), (by first | rfl | (simp; done) | (simp [*]; done)), (by first | rfl | (simp; done) | (simp [*]; done)), H', ⟨by have := HJ2.out; have := HK2.out; omega⟩, by repeat (first | exact Drawn0.refl _ | apply Drawn0.step)⟩
                · rw [if_neg c8] at H
                  exact absurd H (by simp)
              · rw [if_neg c7] at H
                exact absurd H (by simp)
            · rw [if_neg c6] at H
              have c6b0 : decide (x16_2 < (a0.size : Int)) = false := decide_eq_false c6
              clear c6
              obtain rfl := Option.some.inj H
              go_wp2
              go_ret
              exact ⟨by first | rfl | (simp; done) | (simp [*]; done), by repeat (first | exact Drawn0.refl _ | apply Drawn0.step)⟩

end Go.Proofs.YtfonhiakelmhhaaDoor.P
end
section
namespace Go.Proofs.YtfonhiakelmhhaaDoor.P
open Go.RowKit Go.Proofs.YtfonhiakelmhhaaDoorW.PrintWords Go.Proofs.YtfonhiakelmhhaaDoorW.PrintLast Go.Proofs.YtfonhiakelmhhaaDoorW.PrintMore
set_option linter.unusedVariables false
set_option linter.unusedSimpArgs false

mutual
def impl_HashToField.j0 : Nat → ByteArray → ByteArray → Int → Int → Bool → Option (List Int × Bool)
  | 0, _, _, _, _, _ => none
  | k + 1, x0, x1, x2, x3, x22 => if x22 = true then (some (([] : List Int), false)) else ((impl_ExpandMessage.f x0 x1 (wrap64 (24 * x3))).bind fun bt503 => (if bt503.2 = true then (impl_HashToField.l0 k x2 bt503.1 ([] : List Int)) else (some (([] : List Int), false))))
def impl_HashToField.l0 : Nat → Int → ByteArray → List Int → Option (List Int × Bool)
  | 0, _, _, _ => none
  | k + 1, x2, x10, x12 => if x10.toList = ([] : List UInt8) then (some (x12, true)) else (if 0 ≤ 24 then (if 24 ≤ (x10.size : Int) then ((impl_Reduce.f k (x10.extract 0 24) x2).bind fun t505 => (if x12.length < 17592186044416 then (impl_HashToField.l0 k x2 (x10.extract 24 x10.size) (x12 ++ [t505])) else (none))) else (none)) else (none))
end
def impl_HashToField.f (k : Nat) (a0 : ByteArray) (a1 : ByteArray) (a2 : Int) (a3 : Int) : Option (List Int × Bool) := if a3 < 1 then (impl_HashToField.j0 k a0 a1 a2 a3 true) else (if a3 > 340 then (impl_HashToField.j0 k a0 a1 a2 a3 true) else (impl_HashToField.j0 k a0 a1 a2 a3 (a2 == 0)))
set_option maxHeartbeats 8000000 in
set_option maxRecDepth 100000 in
theorem impl_HashToField.calls (k : Nat) (a0 : ByteArray) (a1 : ByteArray) (a2 : Int) (a3 : Int) (r1 : List Int) (r2 : Bool) (w : World) (h : impl_HashToField.f k a0 a1 a2 a3 = some (r1, r2)) (hG : Glob w) :
    Calls Tryd.prog 32 #[.string a0, .string a1, .int .u64 a2, .int .i64 a3] w fun e w' => ∃ v0_ : Value, e = .returned (.tuple #[v0_, .bool r2]) ∧ Kd.R (Kd.int .u64) 22 w' w.heap.size (fun _ => True) v0_ r1 ∧ Below w.heap.size w w' := by
  have HB := Aside0.mk (Below.refl w.heap.size w)
  have H : (if a3 < 1 then (impl_HashToField.j0 k a0 a1 a2 a3 true) else (if a3 > 340 then (impl_HashToField.j0 k a0 a1 a2 a3 true) else (impl_HashToField.j0 k a0 a1 a2 a3 (a2 == 0)))) = some (r1, r2) := h
  clear h
  have HC5 := Aside0.mk H
  clear H
  go_enter Tryd.func32, Tryd.ntmps32
  go_upto_region 1 with (fail)
  go_cut [22] (fun v22 wc => ∃ (kq : Nat) (x22_4 : Bool), v22 = .bool x22_4 ∧ Aside0 (impl_HashToField.j0 kq a0 a1 a2 a3 x22_4 = some (r1, r2)) ∧ Aside0 (kq ≤ k) ∧ Aside0 (Below w.heap.size w wc))
  case first =>
    have H := HC5.out
    clear HC5
    by_cases c6 : a3 < 1
    · rw [if_pos c6] at H
      have c6b0 : decide (a3 < 1) = true := decide_eq_true c6
      clear c6
      (first | rw [c6b0] | (simp only [i64_w, i32_w]; rw [c6b0]) | skip)
      have H' := Aside0.mk H
      clear H
      go_wp2
      go_meet
      case rel => exact ⟨_, (true), (by first | rfl | (simp; done) | (simp [*]; done)), H', ⟨by first | omega | exact Nat.le_refl _⟩, ⟨by repeat (first | (with_reducible first | exact HB.out | apply below_alloc | apply pw_below_drewN | apply below_drew1) | exact HB.out)⟩⟩
    · rw [if_neg c6] at H
      have c6b0 : decide (a3 < 1) = false := decide_eq_false c6
      clear c6
      (first | rw [c6b0] | (simp only [i64_w, i32_w]; rw [c6b0]) | skip)
      by_cases c7 : a3 > 340
      · rw [if_pos c7] at H
        have c7b0 : decide (340 < a3) = true := decide_eq_true c7
        clear c7
        have H' := Aside0.mk H
        clear H
        go_wp2
        go_meet
        case rel => exact ⟨_, (true), (by first | rfl | (simp; done) | (simp [*]; done)), H', ⟨by first | omega | exact Nat.le_refl _⟩, ⟨by repeat (first | (with_reducible first | exact HB.out | apply below_alloc | apply pw_below_drewN | apply below_drew1) | exact HB.out)⟩⟩
      · rw [if_neg c7] at H
        have c7b0 : decide (340 < a3) = false := decide_eq_false c7
        clear c7
        have H' := Aside0.mk H
        clear H
        go_wp2
        go_meet
        case rel => exact ⟨_, ((a2 == 0)), (by first | rfl | (simp; done) | (simp [*]; done)), H', ⟨by first | omega | exact Nat.le_refl _⟩, ⟨by repeat (first | (with_reducible first | exact HB.out | apply below_alloc | apply pw_below_drewN | apply below_drew1) | exact HB.out)⟩⟩
  case rest =>
    clear HC5
    try clear p2
    try clear c3
    try clear c6
    try clear c6b0
    try clear c7
    try clear c7b0
    obtain ⟨kq, x22_4, rfl, HA, HJ4, HB⟩ := hcut
    cases kq with
    | zero => exact absurd HA.out (by simp [impl_HashToField.j0])
    | succ kj4 =>
      have H := HA.out
      clear HA
      simp only [impl_HashToField.j0] at H
      by_cases c8 : x22_4 = true
      · subst c8
        have H1 : (some (([] : List Int), false)) = some (r1, r2) := by rw [if_pos rfl] at H; exact H
        clear H
        have H := H1
        clear H1
        simp only [Option.some.injEq, Prod.mk.injEq] at H
        obtain ⟨rfl, rfl⟩ := H
        go_wp2
        go_ret2
        exact ⟨_, by first | rfl | (simp [errW_none, errW_some] <;> rfl) | (simp [*, errW_none, errW_some] <;> rfl), by first | exact Kd.R_nil _ _ _ _ _ | exact Kd.N_nil _ _ _ _ _ | exact Kd.V_nil _ _ _ _ _ | exact Kd.Q_nil _ _ _ _ _ | exact Kd.S_nil _ _ _ _ _, by repeat (first | (with_reducible first | exact HB.out | apply below_alloc | apply pw_below_drewN | apply below_drew1) | exact HB.out)⟩
      · replace c8 := Bool.eq_false_iff.mpr c8
        subst c8
        have H1 : ((impl_ExpandMessage.f a0 a1 (wrap64 (24 * a3))).bind fun bt503 => (if bt503.2 = true then (impl_HashToField.l0 kj4 a2 bt503.1 ([] : List Int)) else (some (([] : List Int), false)))) = some (r1, r2) := by rw [if_neg (show ¬ (false = true) by decide)] at H; exact H
        clear H
        have H := H1
        clear H1
        replace H := Option.bind_eq_some_iff.mp H
        obtain ⟨⟨t503, t504⟩, A90, H⟩ := H
        replace H : (if t504 = true then (impl_HashToField.l0 kj4 a2 t503 ([] : List Int)) else (some (([] : List Int), false))) = some (r1, r2) := H
        have A9 := Aside0.mk A90
        clear A90
        by_cases c10 : t504 = true
        · subst c10
          have H1 : (impl_HashToField.l0 kj4 a2 t503 ([] : List Int)) = some (r1, r2) := by rw [if_pos rfl] at H; exact H
          clear H
          have H := H1
          clear H1
          have H' := Aside0.mk H
          clear H
          go_wp2_with (first | ((with_reducible refine gate_callee (f := 31) rfl ?_); refine goesL_ (some 28) rfl rfl Tryd.func31 (by kernel_rfl) rfl #[.string a0, .string a1, .int .i64 (wrap64 (24 * a3))] rfl (by (try simp only [List.map_toArray, List.map_cons, List.map_nil]); first | done | rfl | (simp only [List.length_drop, List.length_take]; rfl)) ?_; (with_reducible refine (impl_ExpandMessage.calls a0 a1 (wrap64 (24 * a3)) t503 true _ A9.out ?_).mono ?_); (exact Glob.of_below hG (by repeat (first | (with_reducible first | exact HB.out | apply below_alloc | apply pw_below_drewN | apply below_drew1) | exact HB.out))); rintro e w11 ⟨rfl, hb⟩; refine ⟨_, rfl, ?_⟩; have n0_ := Aside0.mk (below_step (by repeat (first | (with_reducible first | exact HB.out | apply below_alloc | apply pw_below_drewN | apply below_drew1) | exact HB.out)) hb); clear HB; have HB := n0_; clear n0_; (try clear hb); (try clear hb2); (try clear hk); (try clear hi)))
          go_loopg [10, 12] kj4 (fun kq v10 v12 w' => ∃ (x10_2 : ByteArray) (x12_2 : List Int), v10 = .string x10_2 ∧ Aside0 (impl_HashToField.l0 kq a2 x10_2 x12_2 = some (r1, r2)) ∧ Aside0 (kq ≤ kj4) ∧ Aside0 (Kd.R (Kd.int .u64) 22 w' w.heap.size (fun _ => True) v12 x12_2) ∧ Aside0 (Below w.heap.size w w'))
          case atStart => exact ⟨(t503), (([] : List Int)), (by first | rfl | (simp; done) | (simp [*]; done)), H', ⟨Nat.le_refl _⟩, ⟨by first | exact Kd.R_nil _ _ _ _ _ | exact Kd.N_nil _ _ _ _ _ | exact Kd.V_nil _ _ _ _ _ | exact Kd.Q_nil _ _ _ _ _ | exact Kd.S_nil _ _ _ _ _⟩, ⟨by repeat (first | (with_reducible first | exact HB.out | apply below_alloc | apply pw_below_drewN | apply below_drew1) | exact HB.out)⟩⟩
          case round =>
            clear H'
            try clear c1
            try clear p2
            try clear c3
            try clear c6
            try clear c6b0
            try clear p6
            try clear c7
            try clear c7b0
            try clear c8
            try clear c10
            try clear p2
            obtain ⟨x10_2, x12_2, rfl, HA, HK2, HO_12, HB⟩ := hrel
            cases gk with
            | zero => exact absurd HA.out (by simp [impl_HashToField.l0])
            | succ k2 =>
              have H := HA.out
              clear HA
              simp only [impl_HashToField.l0] at H
              by_cases c12 : x10_2.toList = ([] : List UInt8)
              · rw [if_pos c12] at H
                have c12b0 : (x10_2.toList == ([] : List UInt8)) = true := beq_iff_eq.mpr c12
                have c12b1 : (x10_2.toList != ([] : List UInt8)) = false := bne_eq_false_iff_eq.mpr c12
                clear c12
                simp only [Option.some.injEq, Prod.mk.injEq] at H
                obtain ⟨rfl, rfl⟩ := H
                go_wp2
                go_ret2
                exact ⟨_, by first | rfl | (simp [errW_none, errW_some] <;> rfl) | (simp [*, errW_none, errW_some] <;> rfl), by (with_reducible repeat (first | apply Kd.R_alloc | apply Kd.R_drewN | apply Kd.R_drew)); exact HO_12.out, by repeat (first | (with_reducible first | exact HB.out | apply below_alloc | apply pw_below_drewN | apply below_drew1) | exact HB.out)⟩
              · rw [if_neg c12] at H
                have c12b0 : (x10_2.toList == ([] : List UInt8)) = false := beq_eq_false_iff_ne.mpr c12
                have c12b1 : (x10_2.toList != ([] : List UInt8)) = true := bne_iff_ne.mpr c12
                by_cases c13 : 0 ≤ 24
                · rw [if_pos c13] at H
                  have c13b0 := eq_true c13
                  have c13b1 : decide (0 ≤ 24) = true := decide_eq_true c13
                  clear c13
                  by_cases c14 : 24 ≤ (x10_2.size : Int)
                  · rw [if_pos c14] at H
                    have c14b0 := eq_true c14
                    have c14b1 : decide (24 ≤ (x10_2.size : Int)) = true := decide_eq_true c14
                    clear c14
                    replace H := Option.bind_eq_some_iff.mp H
                    obtain ⟨t505, A150, H⟩ := H
                    replace H : (if x12_2.length < 17592186044416 then (impl_HashToField.l0 k2 a2 (x10_2.extract 24 x10_2.size) (x12_2 ++ [t505])) else (none)) = some (r1, r2) := H
                    have A15 := Aside0.mk A150
                    clear A150
                    by_cases c16 : x12_2.length < 17592186044416
                    · rw [if_pos c16] at H
                      have LMc16 := Aside0.mk c16
                      clear c16
                      obtain ⟨y506, hy506⟩ : ∃ y_ : List Int, y_ = (x12_2 ++ [t505]) := ⟨_, rfl⟩
                      replace H : (impl_HashToField.l0 k2 a2 (x10_2.extract 24 x10_2.size) y506) = some (r1, r2) := by first | (rw [hy506]; with_reducible exact H) | (have H2_ := (Option.bind_some _ _).symm.trans H; rw [hy506]; with_reducible exact H2_) | (have H2_ := (Option.bind_some _ _).symm.trans H; with_reducible exact H2_) | with_reducible exact H | (rw [hy506]; exact H) | exact H
                      have Ny506 := Aside0.mk hy506
                      clear hy506
                      have c17b0 := eq_true (of_decide_eq_true (by first | (with_reducible assumption) | assumption) : 24 ≤ (x10_2.size : Int))
                      have H' := Aside0.mk H
                      clear H
                      go_wp2_with (first | ((with_reducible refine gate_callee (f := 33) rfl ?_); refine goesL_ (some 41) rfl rfl Tryd.func33 (by kernel_rfl) rfl #[.string (x10_2.extract 0 24), .int .u64 a2] rfl (by (try simp only [List.map_toArray, List.map_cons, List.map_nil]); first | done | rfl | (simp only [List.length_drop, List.length_take]; rfl)) ?_; (with_reducible refine (impl_Reduce.calls k2 (x10_2.extract 0 24) a2 t505 _ A15.out).mono ?_); rintro e w' ⟨rfl, ⟨nd, rfl⟩⟩; refine ⟨_, rfl, ?_⟩) | ((with_reducible refine gate_builtin (b := .append) (xs := #[.tmp 37, .tmp 42]) rfl ?_); at_builtin; refine Kd.R_append (Kd.int .u64) (w0 := w) w.heap.size rfl (.tmp 37) (.tmp 42) 51 22 (.int .u64 0) 8 rfl Tryd.underlying51 info22 rfl (by decide) (by omega) u12 x12_2 t505 [.int .u64 t505] (fun _ => True) (fun _ => False) rfl rfl ?aP (fun _ hk => hk.elim) ?aF ?aO ?aB ?aS ?aL ?_; (case aP => exact rfl); (case aB => exact (by repeat (first | (with_reducible first | exact HB.out | apply below_alloc | apply pw_below_drewN | apply below_drew1) | exact HB.out))); (case aF => exact (fun _ _ => trivial)); (case aO => exact (by (with_reducible repeat (first | apply Kd.R_alloc | apply Kd.R_drewN | apply Kd.R_drew)); exact HO_12.out)); (case aS => exact (below_size (by repeat (first | (with_reducible first | exact HB.out | apply below_alloc | apply pw_below_drewN | apply below_drew1) | exact HB.out)))); (case aL => have := LMc16.out; omega); intro v507 w18 ho hb hg hat; rw [← Ny506.out] at ho; have n0_ := Aside0.mk (hb); have n1_ := Aside0.mk (ho); clear HB; clear HO_12; have HB := n0_; have HO508 := n1_; clear n0_ n1_; clear ho hb hg hat))
                      go_roundg k2
                      case measure => have := HJ4.out; have := HK2.out; omega
                      case rel => exact ⟨(x10_2.extract 24 x10_2.size), (y506), (by first | rfl | (simp; done) | (simp [*]; done)), H', ⟨by have := HJ4.out; have := HK2.out; omega⟩, ⟨by (with_reducible repeat (first | apply Kd.R_alloc | apply Kd.R_drewN | apply Kd.R_drew)); exact HO508.out⟩, ⟨by repeat (first | (with_reducible first | exact HB.out | apply below_alloc | apply pw_below_drewN | apply below_drew1) | exact HB.out)⟩⟩
                    · rw [if_neg c16] at H
                      exact absurd H (by simp)
                  · rw [if_neg c14] at H
                    exact absurd H (by simp)
                · rw [if_neg c13] at H
                  exact absurd H (by simp)
        · replace c10 := Bool.eq_false_iff.mpr c10
          subst c10
          have H1 : (some (([] : List Int), false)) = some (r1, r2) := by rw [if_neg (show ¬ (false = true) by decide)] at H; exact H
          clear H
          have H := H1
          clear H1
          simp only [Option.some.injEq, Prod.mk.injEq] at H
          obtain ⟨rfl, rfl⟩ := H
          go_wp2_with (first | ((with_reducible refine gate_callee (f := 31) rfl ?_); refine goesL_ (some 28) rfl rfl Tryd.func31 (by kernel_rfl) rfl #[.string a0, .string a1, .int .i64 (wrap64 (24 * a3))] rfl (by (try simp only [List.map_toArray, List.map_cons, List.map_nil]); first | done | rfl | (simp only [List.length_drop, List.length_take]; rfl)) ?_; (with_reducible refine (impl_ExpandMessage.calls a0 a1 (wrap64 (24 * a3)) t503 false _ A9.out ?_).mono ?_); (exact Glob.of_below hG (by repeat (first | (with_reducible first | exact HB.out | apply below_alloc | apply pw_below_drewN | apply below_drew1) | exact HB.out))); rintro e w19 ⟨rfl, hb⟩; refine ⟨_, rfl, ?_⟩; have n0_ := Aside0.mk (below_step (by repeat (first | (with_reducible first | exact HB.out | apply below_alloc | apply pw_below_drewN | apply below_drew1) | exact HB.out)) hb); clear HB; have HB := n0_; clear n0_; (try clear hb); (try clear hb2); (try clear hk); (try clear hi)))
          go_ret2
          exact ⟨_, by first | rfl | (simp [errW_none, errW_some] <;> rfl) | (simp [*, errW_none, errW_some] <;> rfl), by first | exact Kd.R_nil _ _ _ _ _ | exact Kd.N_nil _ _ _ _ _ | exact Kd.V_nil _ _ _ _ _ | exact Kd.Q_nil _ _ _ _ _ | exact Kd.S_nil _ _ _ _ _, by repeat (first | (with_reducible first | exact HB.out | apply below_alloc | apply pw_below_drewN | apply below_drew1) | exact HB.out)⟩

end Go.Proofs.YtfonhiakelmhhaaDoor.P
end
section
namespace Go.Proofs.YtfonhiakelmhhaaDoor.P
open Go.RowKit Go.Proofs.YtfonhiakelmhhaaDoorW.PrintWords Go.Proofs.YtfonhiakelmhhaaDoorW.PrintLast Go.Proofs.YtfonhiakelmhhaaDoorW.PrintMore
set_option linter.unusedVariables false
set_option linter.unusedSimpArgs false

def laws_wPick.f (l0 : List Int) (a1 : Int) : Option (Int) := if (l0.length : Int) = 0 then (some a1) else (if 0 ≤ (Int.tmod a1 (l0.length : Int)) then (if (Int.tmod a1 (l0.length : Int)) < (l0.length : Int) then (some (wrap64 (rd l0 (Int.tmod a1 (l0.length : Int))))) else (none)) else (none))
set_option maxHeartbeats 8000000 in
set_option maxRecDepth 100000 in
theorem laws_wPick.calls (A0 : Option Addr) (c0 : Nat) (l0 : List Int) (a1 : Int) (r : Int) (w : World) (hr0 : Kd.C (Kd.int .u8) w A0 l0.length l0) (hc0 : l0.length ≤ c0) (h : laws_wPick.f l0 a1 = some r) :
    Calls Tryd.prog 28 #[.slice A0 l0.length c0, .int .i64 a1] w fun e w' => e = .returned (.int .i64 r) ∧ Drawn0 w w' := by
  have HR0 := Aside0.mk hr0
  have HC0 := Aside0.mk hc0
  clear hr0 hc0
  have H : (if (l0.length : Int) = 0 then (some a1) else (if 0 ≤ (Int.tmod a1 (l0.length : Int)) then (if (Int.tmod a1 (l0.length : Int)) < (l0.length : Int) then (some (wrap64 (rd l0 (Int.tmod a1 (l0.length : Int))))) else (none)) else (none))) = some r := h
  clear h
  by_cases c3 : (l0.length : Int) = 0
  · rw [if_pos c3] at H
    have c3b0 : ((l0.length : Int) == 0) = true := beq_iff_eq.mpr c3
    have c3b1 : ((l0.length : Int) != 0) = false := bne_eq_false_iff_eq.mpr c3
    clear c3
    obtain rfl := Option.some.inj H
    go_enter Tryd.func28, Tryd.ntmps28
    go_wp2
    go_ret
    exact ⟨by first | rfl | (simp; done) | (simp [*]; done), by repeat (first | exact Drawn0.refl _ | apply Drawn0.step)⟩
  · rw [if_neg c3] at H
    have c3b0 : ((l0.length : Int) == 0) = false := beq_eq_false_iff_ne.mpr c3
    have c3b1 : ((l0.length : Int) != 0) = true := bne_iff_ne.mpr c3
    have c3b2 : ¬ (l0 = []) := fun h_ => c3 (by rw [h_]; rfl)
    obtain ⟨ji4, hji4⟩ : ∃ j_ : Int, (Int.tmod a1 (l0.length : Int)) = j_ := ⟨_, rfl⟩
    replace H : (if 0 ≤ (ji4) then (if (ji4) < (l0.length : Int) then (some (wrap64 (rd l0 (ji4)))) else (none)) else (none)) = some r := by first | (rw [hji4] at H; exact H) | (simp only [hji4] at H ⊢; exact H)
    by_cases c5 : 0 ≤ (ji4)
    · rw [if_pos c5] at H
      have c5b0 : decide (0 ≤ (ji4)) = true := decide_eq_true c5
      clear c5
      by_cases c6 : (ji4) < (l0.length : Int)
      · rw [if_pos c6] at H
        have c6b0 : decide ((ji4) < (l0.length : Int)) = true := decide_eq_true c6
        clear c6
        obtain rfl := Option.some.inj H
        have p465 : 0 ≤ ((ji4) : Int) := of_decide_eq_true (by first | (with_reducible assumption) | assumption)
        have q465 : (ji4) < (l0.length : Int) := of_decide_eq_true (by first | (with_reducible assumption) | assumption)
        obtain ⟨ad465, e465, hx465_0⟩ := Kd.at_int HR0.out (ji4) p465 q465
        cases e465
        replace p465 := eq_true p465
        replace q465 := eq_true q465
        go_enter Tryd.func28, Tryd.ntmps28
        go_wp2
        go_ret
        exact ⟨by first | rfl | (simp; done) | (simp only [← hji4] <;> (first | rfl | simp)) | (simp [*]; done), by repeat (first | exact Drawn0.refl _ | apply Drawn0.step)⟩
      · rw [if_neg c6] at H
        exact absurd H (by simp)
    · rw [if_neg c5] at H
      exact absurd H (by simp)

end Go.Proofs.YtfonhiakelmhhaaDoor.P
end
