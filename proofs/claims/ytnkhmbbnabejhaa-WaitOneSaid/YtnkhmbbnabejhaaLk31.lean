/-
  Maps whose keys are integers: what writes them; a range over one.
-/
import Derived.Test.YtnkhmbbnabejhaaLk30
namespace Go.LK
open Go Go.RowKit

section
variable {α : Type} {f : α → Value} {m : List (Int × α)} {c : Cx} {E : Env} {L : List Sp} {ty T k e : TypeId} {x y z : Operand} {b : Nat}
theorem run_setObjB {P : Program} {w : World} {arr : Array MapEntry} {clock : Nat} {o' : Obj} (h : w.heap[b]? = some (.map arr clock)) : (setObj b o').run P w = .ok () { w with heap := w.heap.setIfInBounds b o' } := by simp [setObj, Sem.run, h]
theorem frame_set (w : World) (b : Nat) (o : Obj) : Frame w [b] { w with heap := w.heap.setIfInBounds b o } := ⟨rfl, rfl, rfl, by simp, fun j _ hj => by
  have : b ≠ j := fun e => hj (by simp [e])
  simp [Array.getElem?_setIfInBounds_ne this]⟩
theorem heap_set {w : World} {b : Nat} {o o' : Obj} (h : w.heap[b]? = some o') : ({ w with heap := w.heap.setIfInBounds b o } : World).heap[b]? = some o := by
  have hb : b < w.heap.size := (Array.getElem?_eq_some_iff.1 h).1
  simp [hb]
theorem run_putI {P : Program} {w : World} {key : Int} {u : α} (hT : P.underlying T = some (.map k e)) (hk : P.underlying k = some (.int .i64)) (hm : (mi b f m).holds w) :
    ∃ w', (Instr.mapUpdate T (.map (some b)) (.int .i64 key) (f u)).run P w = .ok () w' ∧ Frame w [b] w' ∧ (mi b f (putI m key u)).holds w' := by
  obtain ⟨arr, clock, h1, hM⟩ := hm
  have hf := hM.find hk w key
  have hg : (getObj b).run P w = .ok (.map arr clock) w := by simp [getObj, Sem.run, h1]
  have hc : ∀ em, (Instr.checkKey em 10000 k (.int .i64 key)).run P w = .ok () w := fun em => (KT.int hk).check w em [key] rfl
  have hp := hM.put key u
  cases hat : atI m key 0 with
  | none =>
    rw [hat] at hp
    refine ⟨_, ?_, frame_set w b (.map (arr.push { key := .int .i64 key, val := f u, born := clock }) (clock + 1)), ⟨_, _, heap_set h1, hp⟩⟩
    simp only [Instr.mapUpdate, Sem.run_bind, run_underlying hT, Result.andThen_ok, hg, hc, hf, hat, Option.map_none, run_setObjB h1]
  | some p =>
    obtain ⟨j, v⟩ := p
    rw [hat] at hp
    obtain ⟨hja, hkey, hp⟩ := hp
    have hst : (Instr.keyThatStays (((arr[j]?).map (·.key)).getD (.int .i64 key)) (.int .i64 key)).run P w = .ok (.int .i64 key) w := by
      rw [hkey]
      simp [Instr.keyThatStays, Instr.sameBits]
    refine ⟨_, ?_, frame_set w b (.map (arr.modify j fun e => { e with key := .int .i64 key, val := f u }) clock), ⟨_, _, heap_set h1, hp⟩⟩
    simp only [Instr.mapUpdate, Sem.run_bind, run_underlying hT, Result.andThen_ok, hg, hc, hf, hat, Option.map_some, hst, run_setObjB h1]
theorem Lo.mapPut {key : Int} {u : α} (i : Nat) (hT : c.P.underlying T = some (.map k e)) (hk : c.P.underlying k = some (.int .i64)) (hx : ev E x = some (.map (some b))) (hy : ev E y = some (.int .i64 key)) (hz : ev E z = some (f u)) (hi : L[i]? = some (mi b f m)) :
    Lo c E L (.mapUpdate T x y z) ty fun _ L' => L' = L.set i (mi b f (putI m key u)) := fun _ a w ha hst d pos af g K Q hK => by
  obtain ⟨w', h1, h2, h3⟩ := run_putI (key := key) (u := u) hT hk (hst.at_ _ (List.mem_of_getElem? hi))
  exact wp_loud0 (w' := w') (by simp [execOp, ha.ev hx, ha.ev hy, ha.ev hz, h1]) (hK _ _ _ rfl (hst.set hi (by simpa [mi] using h2) h3 (by simp [mi])))
theorem Lo.mapDel {key : Int} {ts : Array TypeId} (i : Nat) (h0 : ts[0]? = some T) (hT : c.P.underlying T = some (.map k e)) (hk : c.P.underlying k = some (.int .i64)) (hx : ev E x = some (.map (some b))) (hy : ev E y = some (.int .i64 key)) (hi : L[i]? = some (mi b f m)) :
    Lo c E L (.call { callee := .builtin .delete, args := #[x, y], argTypes := ts }) ty fun _ L' => L' = L.set i (mi b f (delI m key)) := fun _ a w ha hst d pos af g K Q hK => by
  obtain ⟨arr, clock, h1, hM⟩ := hst.at_ _ (List.mem_of_getElem? hi)
  have hf := hM.find hk w key
  have hg : (getObj b).run c.P w = .ok (.map arr clock) w := by simp [getObj, Sem.run, h1]
  have hc : ∀ em, (Instr.checkKey em 10000 k (.int .i64 key)).run c.P w = .ok () w := fun em => (KT.int hk).check w em [key] rfl
  have hp := hM.del key
  have key : ∃ arr', (Builtin.delete_ ts ty #[.map (some b), .int .i64 key]).run c.P w = .ok (.tuple #[]) { w with heap := w.heap.setIfInBounds b (.map arr' clock) } ∧ MapI f (delI m key) arr' clock := by
    cases hat : atI m key 0 with
    | none =>
      rw [hat] at hp
      refine ⟨arr, ?_, hp⟩
      simp [Builtin.delete_, h0, run_underlying hT, Result.andThen, hg, hc, hf, hat, run_setObjB h1]
    | some p =>
      obtain ⟨j, v⟩ := p
      rw [hat] at hp
      refine ⟨arr.eraseIdxIfInBounds j, ?_, hp⟩
      simp [Builtin.delete_, h0, run_underlying hT, Result.andThen, hg, hc, hf, hat, run_setObjB h1]
  obtain ⟨arr', h2, h3⟩ := key
  exact wp_loud (v := .tuple #[]) (by simp [execOp, resolve, invoke, ha.ev hx, ha.ev hy, builtin, h2]) (hK _ _ _ rfl (hst.set hi (frame_set w b _) ⟨arr', clock, heap_set h1, h3⟩ (by simp [mi])))
theorem Lo.mapDelNil {key : Int} {ts : Array TypeId} (h0 : ts[0]? = some T) (hT : c.P.underlying T = some (.map k e)) (hk : c.P.underlying k = some (.int .i64)) (hx : ev E x = some (.map none)) (hy : ev E y = some (.int .i64 key)) :
    Lo c E L (.call { callee := .builtin .delete, args := #[x, y], argTypes := ts }) ty fun _ L' => L' = L := fun _ a w ha hst d pos af g K Q hK => by
  have hc : ∀ em, (Instr.checkKey em 10000 k (.int .i64 key)).run c.P w = .ok () w := fun em => (KT.int hk).check w em [key] rfl
  have h2 : (Builtin.delete_ ts ty #[.map none, .int .i64 key]).run c.P w = .ok (.tuple #[]) w := by
    simp [Builtin.delete_, h0, run_underlying hT, Result.andThen, hc]
  exact wp_loud (v := .tuple #[]) (w' := w) (by simp [execOp, resolve, invoke, ha.ev hx, ha.ev hy, builtin, h2]) (hK _ _ _ rfl hst)
theorem Lo.mapClear {ts : Array TypeId} (i : Nat) (h0 : ts[0]? = some T) (hT : c.P.underlying T = some (.map k e)) (hx : ev E x = some (.map (some b))) (hi : L[i]? = some (mi b f m)) :
    Lo c E L (.call { callee := .builtin .clear, args := #[x], argTypes := ts }) ty fun _ L' => L' = L.set i (mi b f []) := fun _ a w ha hst d pos af g K Q hK => by
  obtain ⟨arr, clock, h1, hM⟩ := hst.at_ _ (List.mem_of_getElem? hi)
  have hg : (getObj b).run c.P w = .ok (.map arr clock) w := by simp [getObj, Sem.run, h1]
  have h2 : (Builtin.clear_ ts ty #[.map (some b)]).run c.P w = .ok (.tuple #[]) { w with heap := w.heap.setIfInBounds b (.map #[] clock) } := by
    simp [Builtin.clear_, h0, run_underlying hT, Result.andThen, hg, run_setObjB h1]
  exact wp_loud (v := .tuple #[]) (by simp [execOp, resolve, invoke, ha.ev hx, builtin, h2]) (hK _ _ _ rfl (hst.set hi (frame_set w b _) ⟨#[], clock, heap_set h1, MapI.nil⟩ (by simp [mi])))
theorem Lo.mapClearNil {ts : Array TypeId} (h0 : ts[0]? = some T) (hT : c.P.underlying T = some (.map k e)) (hx : ev E x = some (.map none)) :
    Lo c E L (.call { callee := .builtin .clear, args := #[x], argTypes := ts }) ty fun _ L' => L' = L := fun _ a w ha hst d pos af g K Q hK => by
  have h2 : (Builtin.clear_ ts ty #[.map none]).run c.P w = .ok (.tuple #[]) w := by
    simp [Builtin.clear_, h0, run_underlying hT, Result.andThen]
  exact wp_loud (v := .tuple #[]) (w' := w) (by simp [execOp, resolve, invoke, ha.ev hx, builtin, h2]) (hK _ _ _ rfl hst)

/-! ### A range over a map that is read -/
theorem Lo.rangeM {arr : Array MapEntry} {clock : Nat} (i : Nat) (hT : c.P.underlying T = some (.map k e)) (hx : ev E x = some (.map (some b))) (hi : c.Ro[i]? = some (blk b (.map arr clock))) :
    Lo c E L (.range T x) ty fun v L' => ∃ g, v = .pointer (some ⟨g, 0, none⟩) ∧ L' = blk g (.mapIter (some b) clock #[] clock) :: L := fun ok a w ha hs d pos af g K Q hK => by
  have hb : w.heap[b]? = some (.map arr clock) := c.ro ok hs hi
  have hg : (getObj b).run c.P w = .ok (.map arr clock) w := by simp [getObj, Sem.run, hb]
  exact wp_loud (v := .pointer (some ⟨w.heap.size, 0, none⟩)) (w' := w.alloc (.mapIter (some b) clock #[] clock)) (by simp [execOp, ha.ev hx, Instr.range, run_underlying hT, Result.andThen, hg, newObj, Sem.run])
    (hK _ _ _ ⟨_, rfl, rfl⟩ (hs.alloc _))
theorem Lo.rangeNil (hT : c.P.underlying T = some (.map k e)) (hx : ev E x = some (.map none)) :
    Lo c E L (.range T x) ty fun v L' => ∃ g, v = .pointer (some ⟨g, 0, none⟩) ∧ L' = blk g (.mapIter none 0 #[] 0) :: L := fun ok a w ha hs d pos af g K Q hK =>
  wp_loud (v := .pointer (some ⟨w.heap.size, 0, none⟩)) (w' := w.alloc (.mapIter none 0 #[] 0)) (by simp [execOp, ha.ev hx, Instr.range, run_underlying hT, Result.andThen, newObj, Sem.run])
    (hK _ _ _ ⟨_, rfl, rfl⟩ (hs.alloc _))
theorem Lo.nextNil {g : Nat} (i : Nat) (hx : ev E x = some (.pointer (some ⟨g, 0, none⟩))) (hi : L[i]? = some (blk g (.mapIter none 0 #[] 0))) :
    Lo c E L (.next x false) ty fun v L' => v = .tuple #[.bool false] ∧ L' = L := fun _ a w ha hst d pos af gd K Q hK => by
  have hh : w.heap[g]? = some (.mapIter none 0 #[] 0) := hst.at_ _ (List.mem_of_getElem? hi)
  exact wp_loud (v := .tuple #[.bool false]) (w' := w) (by simp [execOp, ha.ev hx, Instr.next, getObj, Sem.run, hh, Result.andThen]) (hK _ _ _ ⟨rfl, rfl⟩ hst)
theorem Lo.nextM {g : Nat} {arr : Array MapEntry} {clock : Nat} {seen : Array Nat} (i j : Nat) (hx : ev E x = some (.pointer (some ⟨g, 0, none⟩))) (hi : L[i]? = some (blk g (.mapIter (some b) clock seen clock))) (hj : c.Ro[j]? = some (blk b (.map arr clock))) (hold : ∀ x ∈ arr.toList, x.born < clock) :
    Lo c E L (.next x false) ty fun v L' => ((leftOf arr seen).size = 0 ∧ v = .tuple #[.bool false] ∧ L' = L) ∨ ∃ en ∈ (leftOf arr seen).toList, v = .tuple #[.bool true, en.key, en.val] ∧ L' = L.set i (blk g (.mapIter (some b) clock (seen.push en.born) clock)) := fun ok a w ha hst d pos af gd K Q hK => by
  have hr : w.heap[g]? = some (.mapIter (some b) clock seen clock) := hst.at_ _ (List.mem_of_getElem? hi)
  have hb : w.heap[b]? = some (.map arr clock) := c.ro ok hst hj
  rcases run_next_at (P := c.P) w ty g b clock clock seen arr clock hr hb hold (Nat.le_refl _) with ⟨h0, h1⟩ | ⟨en, hen, w1, hw1, h1⟩
  · exact wp_loud (v := .tuple #[.bool false]) (w' := w) (by simp [execOp, ha.ev hx, h1]) (hK _ _ _ (.inl ⟨h0, rfl, rfl⟩) hst)
  · have hst1 : St c.w0 c.M L w1 := by
      rcases hw1 with rfl | rfl
      · exact hst
      · exact hst.drew _
    have hr1 : w1.heap[g]? = some (.mapIter (some b) clock seen clock) := hst1.at_ _ (List.mem_of_getElem? hi)
    exact wp_loud (v := .tuple #[.bool true, en.key, en.val]) (by simp [execOp, ha.ev hx, h1, ChangeMaps.setBlock]) (hK _ _ _ (.inr ⟨en, hen, rfl, rfl⟩) (hst1.set hi (frame_set w1 g _) (heap_set hr1) (by simp [blk])))
theorem Qt.entryM {g : Nat} {arr : Array MapEntry} {clock : Nat} {seen : Array Nat} {en : MapEntry} (i j : Nat) (hx : ev E x = some (.pointer (some ⟨g, 0, none⟩))) (hi : L[i]? = some (blk g (.mapIter (some b) clock (seen.push en.born) clock))) (hj : c.Ro[j]? = some (blk b (.map arr clock)))
    (hen : en ∈ arr.toList) (hn : (arr.toList.map (·.born)).Nodup) : Qt c E L (.entry x) ty (.tuple #[en.key, en.val]) := fun ok a w ha hst _ _ _ _ => by
  have hr : w.heap[g]? = some (.mapIter (some b) clock (seen.push en.born) clock) := hst.at_ _ (List.mem_of_getElem? hi)
  have hb : w.heap[b]? = some (.map arr clock) := c.ro ok hst hj
  have := run_entry_at (P := c.P) w g b clock seen arr clock en hr hb hen hn
  simp [execOp, ha.ev hx, this]
end
end Go.LK
