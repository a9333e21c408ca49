/-
  Builders: a text's bytes behind a row of bytes; a row of bytes as a text; pointers held against nil, and turned; a function that hands back what it is given; the last bits of an integer.
-/
import Derived.Test.YtnkhmbbnabejhaaGreatDoorLk24
import Derived.Lib.Builder
import Derived.Lib.AppendStr
import Derived.Lib.UnsafeStr
import Derived.Laws.Externs
import Derived.Laws.Pointers
namespace Go.LK
open Go Go.RowKit

def encB (b : UInt8) : List Value := [.int .u8 b.toNat]
theorem encB.one {l : List UInt8} : ∀ a ∈ l, (encB a).all Value.oneCell' = true := fun _ _ => rfl
theorem flatten_encB : ∀ (l : List UInt8), (l.map encB).flatten = Lib.strCells ⟨l.toArray⟩
  | [] => rfl
  | b :: l => by
    rw [List.map_cons, List.flatten_cons, flatten_encB l]; rfl
theorem len_encB (l : List UInt8) : ∀ x ∈ l.map encB, x.length = 1 := fun x hx => by
  obtain ⟨y, _, rfl⟩ := List.mem_map.1 hx; rfl

theorem own_string {P : Program} (w : World) (t u ty e : TypeId) (i : TypeInfo) (ht : P.underlying t = some (.slice e)) (hu : P.underlying u = some .string) (hi : P.info? e = some i) (hz : i.zero = some (.int .u8 0)) (hsize : i.size = 1) (hby : i.bytes = 1)
    (v : Value) (n : Nat) (xs : List Value) (hown : w.ownsRow 0 e 1 v n xs) (s : ByteArray) (h63 : n + s.size ≤ maxLen) (hb : n + s.size ≤ 140737488355328) :
    ∃ v' w', (Builtin.append_ #[t, u] ty #[v, .string s]).run P w = .ok v' w' ∧ w'.ownsRow 0 e 1 v' (n + s.size) (xs ++ Lib.strCells s) ∧ w.grownBy w' v.ownBlock ∧ (v'.ownBlock = v.ownBlock ∨ v'.ownBlock = some w.heap.size) := by
  obtain ⟨v', w', hr, h2, h3, h4⟩ := Lib.run_append_own_string (P := P) w 0 t u ty e i ht hu hi hz hsize hby v n xs hown s h63 hb (Nat.zero_le _)
  refine ⟨v', w', hr, h2, h3, ?_⟩
  rcases hown.2 with ⟨rfl, rfl⟩ | ⟨g, cap, cur, rfl, hbg, hg, hnc, hcm, hcs, htake⟩
  · by_cases hm : s.size = 0
    · have := h4.2 ⟨rfl, hm⟩
      subst this
      exact .inl rfl
    · have hr2 := run_append_nil_string (P := P) w t u ty e i (.int .u8 0) ht hu hi hz s (by omega) (by omega) (by rw [hby]; omega)
      rw [hr] at hr2
      injection hr2 with h5 h6
      subst h5
      exact .inr rfl
  · by_cases hroom : n + s.size ≤ cap
    · have hr2 := Lib.run_append_room_string (P := P) w t u ty e i ht hu hi hsize g n cap cur hg s hroom (by omega)
      rw [hr] at hr2
      injection hr2 with h5 h6
      subst h5
      exact .inl rfl
    · have hxl : xs.length = n := by simpa using hown.1
      have hr2 := Lib.run_append_grow_string (P := P) w t u ty e i (.int .u8 0) ht hu hi hz ⟨g, 0, none⟩ n cap xs (by rw [hsize]; simpa using hxl) (hown.cells (g := g) rfl) s (by omega) (by unfold maxLen at h63; omega) (by rw [hby]; exact growslice_fits (by omega) (by omega))
      rw [hr] at hr2
      injection hr2 with h5 h6
      subst h5
      exact .inr rfl

section
variable {c : Cx} {k : List It} {E : Env} {L : List Sp} {ops : Array Oper} {rest : List Oper} {ty : TypeId} {v V : Value} {x y z : Operand} {T t S D : TypeId}
theorem Lo.appendStr (i : Nat) {u e : TypeId} {inf : TypeInfo} {l s : List UInt8} (hT : c.P.underlying T = some (.slice t)) (hu : c.P.underlying u = some .string) (hinf : c.P.info? t = some inf) (hz : inf.zero = some (.int .u8 0)) (hsz : inf.size = 1) (hby : inf.bytes = 1)
    (hx : ev E x = some V) (hi : L[i]? = some (row V t 1 (l.map encB))) (hy : ev E y = some (str s)) (hb : l.length + s.length ≤ 140737488355328) :
    Lo c E L (.call { callee := .builtin .append, args := #[x, y], argTypes := #[T, u] }) e fun v L' => L' = L.set i (row v t 1 ((l ++ s).map encB)) := fun _ a w ha hst d pos af gd K Q hK => by
  obtain ⟨ho, _⟩ := hst.at_ _ (List.mem_of_getElem? hi)
  have hss : (ByteArray.mk s.toArray).size = s.length := size_mk s
  rw [List.length_map, flatten_encB] at ho
  obtain ⟨v', w', hr, h2, h3, h5⟩ := own_string (P := c.P) w T u e t inf hT hu hinf hz hsz hby V l.length _ ho ⟨s.toArray⟩ (by rw [hss]; unfold maxLen; omega) (by rw [hss]; exact hb)
  refine wp_loud (v := v') (w' := w') (by simp [execOp, resolve, invoke, builtin, ha.ev hx, ha.ev hy, hr]) (hK _ _ _ rfl (hst.set hi ⟨h3.os, h3.tape, h3.output, h3.size, fun k hk hn => h3.block k hk (fun e => hn (by simp [row, ← e]))⟩ ⟨?_, len_encB _⟩ (fun k hk => ?_)))
  · have hfl : ((l ++ s).map encB).flatten = Lib.strCells ⟨l.toArray⟩ ++ Lib.strCells ⟨s.toArray⟩ := by rw [List.map_append, List.flatten_append, flatten_encB, flatten_encB]
    rw [hfl, List.length_map, List.length_append]
    rw [hss] at h2
    exact h2
  · have hk' : v'.ownBlock = some k := by simpa [row] using hk
    rcases h5 with h5 | h5
    · exact .inl (by simp [row, ← h5, hk'])
    · rw [hk'] at h5; cases h5; exact .inr (Nat.le_refl _)

theorem row_at {w : World} {V : Value} {l : List UInt8} (h : (row V t 1 (l.map encB)).holds w) (hne : l ≠ []) : ∃ g cap cur, V = .slice (some ⟨g, 0, none⟩) l.length cap ∧ w.heap[g]? = some (.cells cur t (0, 0)) ∧ l.length ≤ cap ∧ cap ≤ maxLen ∧ cur.size = cap ∧ cur.toList.take l.length = Lib.strCells ⟨l.toArray⟩ := by
  obtain ⟨ho, _⟩ := h
  rw [List.length_map, flatten_encB] at ho
  rcases ho.2 with ⟨_, hn⟩ | ⟨g, cap, cur, hV, _, hg, hnc, hcm, hcs, htake⟩
  · exact absurd (List.eq_nil_of_length_eq_zero hn) hne
  · exact ⟨g, cap, cur, hV, hg, hnc, hcm, by simpa using hcs, by simpa using htake⟩
theorem Qt.sliceData (i : Nat) {ts : Array TypeId} {l : List UInt8} (hx : ev E x = some V) (hi : L[i]? = some (row V t 1 (l.map encB))) (hne : l ≠ []) :
    Qt c E L (.call { callee := .builtin .unsafeSliceData, args := #[x], argTypes := ts }) ty (.pointer (some ⟨vblk V, 0, none⟩)) := fun _ a w ha hst _ _ _ _ => by
  obtain ⟨g, cap, cur, rfl, hg, h1, h2, h3, h4⟩ := row_at (hst.at_ _ (List.mem_of_getElem? hi)) hne
  have hpos : 0 < l.length := List.length_pos_iff.2 hne
  have := Lib.run_unsafeSliceData_row (P := c.P) (w := w) ts ty ⟨g, 0, none⟩ l.length cap (by omega)
  simp [execOp, resolve, invoke, builtin, ha.ev hx, this, vblk]
theorem freeze_frame (w : World) (g n : Nat) : Frame w [g] (w.freeze ⟨g, 0, none⟩ n) := by
  unfold World.freeze
  split
  · exact Frame.refl w _
  · refine ⟨rfl, rfl, rfl, by simp, fun k _ hk => ?_⟩
    have : ¬ g = k := fun e => hk (by simp [e])
    simp [Array.getElem?_modify, this]
theorem Lo.unsafeString (i : Nat) {pt it u : TypeId} {l : List UInt8} {L' : List Sp} (hp : c.P.underlying pt = some (.pointer t)) (hc : c.P.cellsOf t = 1) (hx : ev E x = some (.pointer (some ⟨vblk V, 0, none⟩))) (hy : ev E y = some (.int .i64 l.length)) (hi : L[i]? = some (row V t 1 (l.map encB))) (hne : l ≠ []) (hL : L.eraseIdx i = L') :
    Lo c E L (.call { callee := .builtin .unsafeString, args := #[x, y], argTypes := #[pt, it] }) u fun v L'' => v = str l ∧ L'' = L' := fun _ a w ha hst d pos af gd K Q hK => by
  subst hL
  obtain ⟨g, cap, cur, rfl, hg, h1, h2, h3, h4⟩ := row_at (hst.at_ _ (List.mem_of_getElem? hi)) hne
  have hr := Lib.run_unsafeString_row (P := c.P) w pt it u t hp hc g cur.size (by simp [World.shape?, hg]) l hne (by omega) (by unfold maxLen at h2; omega) (fun j x hj => by
    rw [add_at, Nat.zero_add, cell_of_row w g j _ t _ hg, ← Array.getElem?_toList]
    have hlt := (List.getElem?_eq_some_iff.1 hj).1
    have h5 : (cur.toList.take l.length)[j]? = cur.toList[j]? := List.getElem?_take_of_lt hlt
    rw [← h5, h4]
    simp [Lib.strCells, hj])
  refine wp_loud (v := str l) (w' := w.freeze ⟨g, 0, none⟩ l.length) (by simp [execOp, resolve, invoke, builtin, ha.ev hx, ha.ev hy, vblk, hr]) (hK _ _ _ ⟨rfl, rfl⟩ ?_)
  have hpm := hst.perm (perm_eraseIdx L i _ hi)
  have := St.step (L := [row (.slice (some ⟨g, 0, none⟩) l.length cap) t 1 (l.map encB)]) (R := L.eraseIdx i) (L' := []) (w' := w.freeze ⟨g, 0, none⟩ l.length) hpm (by simpa [feet, row, Value.ownBlock] using freeze_frame w g l.length) (by simp) (by simp) (by simp)
  simpa using this

theorem Pu.sliceDataNil {ts : Array TypeId} (hx : ev E x = some (.slice none 0 0)) : Pu c E (.call { callee := .builtin .unsafeSliceData, args := #[x], argTypes := ts }) ty (.pointer none) := fun a w ha _ _ _ _ => by
  have := Lib.run_unsafeSliceData_nil (P := c.P) (w := w) ts ty 0 0
  simp [execOp, resolve, invoke, builtin, ha.ev hx, this]
theorem Pu.unsafeStringNil {pt it : TypeId} (hx : ev E x = some (.pointer none)) (hy : ev E y = some (.int .i64 0)) : Pu c E (.call { callee := .builtin .unsafeString, args := #[x, y], argTypes := #[pt, it] }) ty (str []) := fun a w ha _ _ _ _ => by
  have h : (Builtin.unsafeString_ #[pt, it] ty #[.pointer none, .int .i64 0]).run c.P w = .ok (str []) w := Lib.run_unsafeString_none w pt it ty none
  simp [execOp, resolve, invoke, builtin, ha.ev hx, ha.ev hy, h]

/-! ### Pointers -/
theorem Pu.nilEq {e : TypeId} (hT : c.P.underlying T = some (.pointer e)) (hx : ev E x = some (.pointer none)) : Pu c E (.binOp .eql T x (.const (.pointer none)) T) ty (.bool true) := fun a w h _ _ _ _ => by
  have h3 : ∀ d, (Op.equalIn (d + 1) T (.pointer none) (.pointer none)).run c.P w = .ok true w := fun d => by simp [Op.equalIn, run_underlying hT]
  have h4 : (binOp .eql T (.pointer none) (.pointer none)).run c.P w = .ok (.bool true) w := by
    simp only [binOp]
    simp [Op.equal, Op.maxDepth, h3 9999]
  have h5 : eqGuard .eql T x (.const (.pointer none)) (.pointer none) (.pointer none) = pure () := by cases x <;> rfl
  have h2 : a.eval (.const (.pointer none)) = .pointer none := rfl
  simp only [execOp, h.ev hx, h2, h5]
  simp [h4]
theorem Pu.someEq {e : TypeId} {ad : Addr} (hT : c.P.underlying T = some (.pointer e)) (hx : ev E x = some (.pointer (some ad))) : Pu c E (.binOp .eql T x (.const (.pointer none)) T) ty (.bool false) := fun a w h _ _ _ _ => by
  have h3 : ∀ d, (Op.equalIn (d + 1) T (.pointer (some ad)) (.pointer none)).run c.P w = .ok false w := fun d => by simp [Op.equalIn, run_underlying hT]
  have h4 : (binOp .eql T (.pointer (some ad)) (.pointer none)).run c.P w = .ok (.bool false) w := by
    simp only [binOp]
    simp [Op.equal, Op.maxDepth, h3 9999]
  have h5 : eqGuard .eql T x (.const (.pointer none)) (.pointer (some ad)) (.pointer none) = pure () := by cases x <;> rfl
  have h2 : a.eval (.const (.pointer none)) = .pointer none := rfl
  simp only [execOp, h.ev hx, h2, h5]
  simp [h4]
theorem Pu.samePtr {e : TypeId} {j : TypeInfo} {ad : Addr} (hT : c.P.underlying T = some (.pointer e)) (hi : c.P.info? e = some j) (hx : ev E x = some (.pointer (some ad))) (hy : ev E y = some (.pointer (some ad))) : Pu c E (.binOp .neq T x y T) ty (.bool false) := fun a w h _ _ _ _ => by
  have h4 := Lib.run_neq_ptr_same (P := c.P) (w := w) ad hT hi
  have h5 : eqGuard .neq T x y (.pointer (some ad)) (.pointer (some ad)) = pure () := by cases x <;> cases y <;> rfl
  simp only [execOp, h.ev hx, h.ev hy, h5]
  simp [h4]
theorem Qt.toUnsafe (i : Nat) {e t0 : TypeId} {j : TypeInfo} {g : Nat} {cs : List Value} (hS : c.P.underlying S = some (.pointer e)) (hD : c.P.underlying D = some .unsafePointer) (hi : c.P.info? e = some j) (hj : j.size ≠ 0) (hx : ev E x = some (.pointer (some ⟨g, 0, none⟩))) (hL : L[i]? = some (var g cs t0)) (hc : Nat.blt 0 cs.length = true) :
    Qt c E L (.convert S D x) ty (.pointer (some ⟨g, 0, none⟩)) := fun _ a w ha hst _ _ _ _ => by
  have hh : w.heap[g]? = some (.cells cs.toArray t0 (0, 0)) := hst.at_ _ (List.mem_of_getElem? hL)
  have := Lib.run_to_unsafe (P := c.P) (w := w) (e := t0) (cells := cs.length) ⟨g, 0, none⟩ hS hD hi hj (by simp [World.shape?, hh]) (Nat.le_of_ble_eq_true hc)
  simp [execOp, ha.ev hx, this]
theorem Qt.fromUnsafe (i : Nat) {u t0 : TypeId} {j : TypeInfo} {g : Nat} {cs : List Value} (hS : c.P.underlying S = some .unsafePointer) (hD : c.P.underlying D = some (.pointer u)) (hi : c.P.info? u = some j) (hx : ev E x = some (.pointer (some ⟨g, 0, none⟩))) (hL : L[i]? = some (var g cs t0)) (hl : liesAt c.P c.P.depth t0 (cs.length / c.P.cellsOf t0) 0 u 1 = true) :
    Qt c E L (.convert S D x) ty (.pointer (some ⟨g, 0, none⟩)) := fun _ a w ha hst _ _ _ _ => by
  have hh : w.heap[g]? = some (.cells cs.toArray t0 (0, 0)) := hst.at_ _ (List.mem_of_getElem? hL)
  have := Lib.run_from_unsafe (P := c.P) (w := w) (e := t0) (cells := cs.length) ⟨g, 0, none⟩ hS hD hi (by simp [World.shape?, hh]) hl
  simp [execOp, ha.ev hx, this]
/-- A function that hands back what it is given (it has no body). -/
theorem Pu.noEscape {f : FuncId} {fn : Func} {ts : Array TypeId} (hf : c.P.funcs[f]? = some fn) (hn : (fn.name == "runtime.NumGoroutine") = false) (hb : fn.body.isNone = true) (hx' : Extern.findNext fn = none) (he : Extern.find fn = some Extern.AbiNoEscape.same) (hx : ev E x = some v) :
    Pu c E (.call { callee := .value (.func f), args := #[x], argTypes := ts }) ty v := fun a w ha _ _ _ _ => by
  have h1 := run_callFunc_extern (P := c.P) hf hn hb hx' he #[v] w
  have h2 : a.eval (.func f) = .func (.func f) #[] #[] := rfl
  rw [Lib.run_noEscape] at h1
  simp [execOp, resolve, Deferred.ofValue, invoke, h2, ha.ev hx, h1]

/-! ### Bits -/
end
end Go.LK
