/- The table of sines: a variable that holds an array of 65 numbers, made, written whole and read. -/
import Derived.Test.YtgciphmmfbgkeaaProg
import Derived.Test.YtgciphmmfbgkeaaClo
import Derived.Deep.WholeRow
import Derived.Laws.Tables
import Derived.Laws.Rows
import Derived.KernelRfl
namespace Go.Proofs.Ytgciphmmfbgkeaa.Sin0
open Go.RowKit Go.Proofs.YtgciphmmfbgkeaaW.PrintWords Go.Proofs.YtgciphmmfbgkeaaW.PrintLast
def sines : List Int := [0, 1608, 3216, 4821, 6424, 8022, 9616, 11204, 12785, 14359, 15924, 17479, 19024,
  20557, 22078, 23586, 25080, 26558, 28020, 29466, 30893, 32303, 33692, 35062, 36410, 37736,
  39040, 40320, 41576, 42806, 44011, 45190, 46341, 47464, 48559, 49624, 50660, 51665, 52639,
  53581, 54491, 55368, 56212, 57022, 57798, 58538, 59244, 59914, 60547, 61145, 61705, 62228,
  62714, 63162, 63572, 63944, 64277, 64571, 64827, 65043, 65220, 65358, 65457, 65516, 65536]
def sn (i : Nat) : Int := sines.getD i 0
def tabV : Array Value := (sines.map (Value.int .i64)).toArray
def zerV : Array Value := (List.replicate 65 (Value.int .i64 0)).toArray
theorem tab_cell (i : Nat) (h : i < 65) : tabV[i]? = some (.int .i64 (sn i)) := by
  unfold tabV sn
  rw [List.getElem?_toArray, List.getElem?_map, List.getElem?_eq_getElem (show i < sines.length from h), List.getD_eq_getElem?_getD, List.getElem?_eq_getElem (show i < sines.length from h)]; rfl
theorem info62 : (Try.prog.info? 62).map (fun i => (i.zero, i.size)) = some (some (.agg zerV), 65) := by kernel_rfl
theorem zero62 (w : World) : (zeroValue 62).run Try.prog w = .ok (.agg zerV) w := (zero_of_info info62).1 w
theorem size62 : (Try.prog.info? 62).map (·.size) = some 65 := (zero_of_info info62).2
theorem tab_size : tabV.size = 65 := by kernel_rfl
theorem zer_size : zerV.size = 65 := by kernel_rfl
theorem tab_one : tabV.all (·.oneCell') = true := by kernel_rfl
theorem below_row {B : Nat} {w0 W : World} {g : Nat} (cs : Array Value) (h : Below B w0 W) (hB : B ≤ g) : Below B w0 (W.setRow g cs) :=
  ⟨by rw [setRow_os]; exact h.os, by rw [setRow_tape]; exact h.tape, by rw [setRow_output]; exact h.output, by rw [setRow_size]; exact h.size, fun i hi => by rw [setRow_other _ _ _ _ (by omega)]; exact h.block i hi⟩
section
variable {ops : Array Oper} {Q : Exit → Act → World → Prop} {rest : List Oper} {o : Oper} {a : Act} {W : World}
theorem build_tab (hg : o.guard = none) (parts : Array (Nat × Operand)) (ho : o.op = .build 62 parts) (hv : Try.prog.built 62 (parts.map fun (i, x) => (i, a.eval x)).toList = some tabV)
    (h : wpList Try.prog ops Q rest (a.put o.dst (.agg tabV)) W) : wpList Try.prog ops Q (o :: rest) a W := by
  refine wpList_build hg 62 parts ho (by rw [hv]; rfl) ?_
  rw [hv]; exact h
theorem alloc_tab (hgd : o.guard = none) {N : Tmp} (_hd : o.dst = some N) (ho : o.op = .alloc 62)
    (h : ∀ g, g = W.heap.size → ∀ w1, w1.heap[g]? = some (.cells zerV 62 (0, 0)) → Below W.heap.size W w1 → wpList Try.prog ops Q rest (a.put o.dst (.pointer (some ⟨g, 0, none⟩))) w1) : wpList Try.prog ops Q (o :: rest) a W := by
  refine box_event hgd _hd (cs := zerV) (t := 62) ?_ h
  have hz := zero62 W
  unfold execOp
  simp only [ho, Instr.alloc, Sem.run_bind, hz]
  first | rfl | (simp [newVar, newRow, newObj]; rfl) | simp [newVar, newRow, newObj]
theorem store_tab (hgd : o.guard = none) (hN : o.dst = none) {x y : Operand} (ho : o.op = .store 62 x y) (g : Nat) (hx : a.eval x = .pointer (some ⟨g, 0, none⟩)) (hy : a.eval y = .agg tabV)
    (hg : W.heap[g]? = some (.cells zerV 62 (0, 0))) {w0 : World} (hB : Below w0.heap.size w0 W) (hle : w0.heap.size ≤ g)
    (h : ∀ w1, w1.heap[g]? = some (.cells tabV 62 (0, 0)) → Below w0.heap.size w0 w1 → wpList Try.prog ops Q rest a w1) : wpList Try.prog ops Q (o :: rest) a W := by
  refine wpList_store_row hgd 62 x y ho g tabV hx hy 62 zerV hg (by rw [tab_size]; exact size62) (by rw [tab_size, zer_size]) tab_one ?_
  rw [hN]
  exact h _ (setRow_heap _ _ _ _ _ _ hg) (below_row _ hB hle)
end
end Go.Proofs.Ytgciphmmfbgkeaa.Sin0
