/-
  Arrays whose elements are one cell each, by lists: an element at an index that is not known; a text of bytes.
-/
import Derived.Test.YtnkhmbbnabejhaaLk19
import Derived.Laws.BytesString
namespace Go.LK
open Go Go.RowKit

theorem set_cells {α : Type} {f : α → Value} {l : List α} {i : Nat} {x : α} (h : i < l.length) : (l.map f).take i ++ [f x] ++ (l.map f).drop (i + [f x].length) = (l.set i x).map f := by
  rw [← List.map_take, List.length_singleton, ← List.map_drop, List.set_eq_take_append_cons_drop, if_pos h]
  simp
theorem at_map {α : Type} {f : α → Value} {l : List α} {i : Nat} {x : α} (h : l[i]? = some x) : (l.map f)[i]? = some (f x) := by rw [List.getElem?_map, h]; rfl
theorem set_cells1 {α : Type} {f : α → Value} {l : List α} {i : Nat} {x : α} (h : i < l.length) : (l.map f).take (0 + i * 1) ++ [f x] ++ (l.map f).drop (0 + i * 1 + [f x].length) = (l.set i x).map f := by
  rw [Nat.zero_add, Nat.mul_one]
  exact set_cells h
theorem set_fits {α : Type} {f : α → Value} {l : List α} {i : Nat} (h : i < l.length) : Nat.ble (0 + i * 1 + 1) (l.map f).length = true := by
  rw [Nat.ble_eq, List.length_map]
  omega
section
variable {c : Cx} {E : Env} {L : List Sp} {x y : Operand} {T ty : TypeId} {kd : IntKind}
theorem Pu.indexAddrG {len e g off s : Nat} {m : Int} (hT : ∀ w, (underlying T).run c.P w = .ok (.array len e) w) (hs : ∀ w, (sizeOf e).run c.P w = .ok s w)
    (hx : ev E x = some (.pointer (some ⟨g, off, none⟩))) (hy : ev E y = some (.int kd m)) (h0 : 0 ≤ m) (h1 : m < len) : Pu c E (.indexAddr T x y) ty (.pointer (some ⟨g, off + m.toNat * s, none⟩)) := fun a w ha _ _ _ _ => by
  have hadd : Addr.add ⟨g, off, none⟩ (m.toNat * s) = ⟨g, off + m.toNat * s, none⟩ := by unfold Addr.add; split <;> simp_all
  simp [execOp, ha.ev hx, ha.ev hy, Instr.indexAt, Instr.sureAddr, asIntOf, hT, hs, h0, h1, hadd]
theorem Pu.wholeArr {n e g : Nat} {s : Nat} (hT : ∀ w, (underlying T).run c.P w = .ok (.array n e) w) (hs : ∀ w, (sizeOf e).run c.P w = .ok s w) (hx : ev E x = some (.pointer (some ⟨g, 0, none⟩))) :
    Pu c E (.slice T x none none none) ty (.slice (some ⟨g, 0, none⟩) n n) := fun a w ha _ _ _ _ => by
  by_cases hn : n = 0
  · subst hn; simp [execOp, ha.ev hx, Instr.sliceAt, Instr.sureAddr, Instr.sliceBounds, hT, hs]
  · have hadd : Addr.add ⟨g, 0, none⟩ (0 * s) = ⟨g, 0, none⟩ := by simp [Addr.add]
    simp [execOp, ha.ev hx, Instr.sliceAt, Instr.sureAddr, Instr.sliceBounds, hT, hs, Addr.add]
end

def valU8 (b : UInt8) : Value := .int .u8 b.toNat
theorem push_all : ∀ (l : List UInt8) (a : List UInt8), (l.map fun b => (b.toNat : Int)).foldl (fun (r : ByteArray) n => r.push (UInt8.ofNat n.toNat)) ⟨a.toArray⟩ = ⟨(a ++ l).toArray⟩
  | [], a => by simp
  | b :: l, a => by
    simp only [List.map_cons, List.foldl_cons, Int.toNat_natCast, UInt8.ofNat_toNat]
    have h : (ByteArray.mk a.toArray).push b = ⟨(a ++ [b]).toArray⟩ := by
      apply ByteArray.ext
      simp [ByteArray.push]
    rw [h, push_all l (a ++ [b]), List.append_assoc]; rfl
section
variable {c : Cx} {E : Env} {L : List Sp} {x : Operand} {S D ty : TypeId}
theorem Qt.bytesStr {e g n cap : Nat} {l : List UInt8} (hS : ∀ w, (underlying S).run c.P w = .ok (.slice e) w) (he : ∀ w, (underlying e).run c.P w = .ok (.int .u8) w) (hD : ∀ w, (underlying D).run c.P w = .ok .string w)
    (hx : ev E x = some (.slice (some ⟨g, 0, none⟩) n cap)) (hc : Cel c L g 0 (l.map valU8)) (hl : l.length = n) : Qt c E L (.convert S D x) ty (str l) := fun ok a w ha hs _ _ _ _ => by
  subst hl
  have hcells := hc ok w hs
  have hload : (loadCells ⟨g, 0, none⟩ l.length).run c.P w = .ok ((l.map fun b => (b.toNat : Int)).map (Value.int .u8)).toArray w := by
    have h := run_loadCells_list (P := c.P) (w := w) ⟨g, 0, none⟩ (l.map valU8) (fun j v hj => by
      have h1 := hcells j v hj
      have h2 : Addr.add ⟨g, 0, none⟩ j = ⟨g, 0 + j, none⟩ := by unfold Addr.add; split <;> simp_all
      rw [h2]; exact h1)
    rw [List.length_map] at h
    rw [h]
    congr 2
    rw [List.map_map]
    rfl
  have hrun := run_bytesToString w ⟨g, 0, none⟩ l.length cap _ hload
  have hp := push_all l []
  simp only [List.nil_append] at hp
  have hemp : (ByteArray.empty) = ⟨([] : List UInt8).toArray⟩ := rfl
  rw [hemp, hp] at hrun
  simp [execOp, ha.ev hx, convert, hS, hD, he, hrun]
end
end Go.LK
