/-
  Rows (slices that the call owns), slices that may be read; memory operations; calls; ends.
-/
import Derived.Test.YtohjlkjhpibkmaaGreatDoorLk3
import Derived.Maps.AppendAt
namespace Go.LK
open Go Go.RowKit

def vblk : Value → Nat
  | .slice (some a) _ _ => a.block
  | _ => 0
def voff : Value → Nat
  | .slice (some a) _ _ => a.off
  | _ => 0

/-- The slice value v reads, element by element, as els (each of s cells). -/
structure Elt (w : World) (v : Value) (s : Nat) (els : List (List Value)) : Prop where
  len : ∀ x ∈ els, x.length = s
  form : ∃ A cap, v = .slice A els.length cap ∧ els.length ≤ cap ∧ cap ≤ maxLen
  addr : els ≠ [] → ∃ cap, v = .slice (some ⟨vblk v, voff v, none⟩) els.length cap
  cells : ∀ i e j u, els[i]? = some e → e[j]? = some u → w.cell? ⟨vblk v, voff v + i * s + j, none⟩ = some u

theorem cell_of_block {w w' : World} {b o : Nat} (h : w'.heap[b]? = w.heap[b]?) : w'.cell? ⟨b, o, none⟩ = w.cell? ⟨b, o, none⟩ := World.cell?_of_block h

theorem cell_lt {w : World} {b o : Nat} {u : Value} (h : w.cell? ⟨b, o, none⟩ = some u) : b < w.heap.size := World.block_lt_of_cell? w ⟨b, o, none⟩ h

theorem add_at (b o j : Nat) : (⟨b, o, none⟩ : Addr).add j = ⟨b, o + j, none⟩ := by unfold Addr.add; split <;> simp_all

/-- A slice that may be read. -/
def rd (v : Value) (s : Nat) (els : List (List Value)) : Sp where
  foot := if els.flatten = [] then [] else [vblk v]
  holds w := Elt w v s els
  lt w h k hk := by
    split at hk
    · cases hk
    · rename_i hne
      simp only [List.mem_singleton] at hk
      subst hk
      obtain ⟨e, he, hee⟩ : ∃ e, e ∈ els ∧ e ≠ [] :=
        Classical.byContradiction fun hc => hne (List.flatten_eq_nil_iff.2 fun e he => Classical.byContradiction fun h' => hc ⟨e, he, h'⟩)
      obtain ⟨i, hi⟩ := List.mem_iff_getElem?.1 he
      obtain ⟨u, us, rfl⟩ := List.exists_cons_of_ne_nil hee
      exact cell_lt (h.cells i _ 0 u hi rfl)
  loc w w' h hh := ⟨hh.len, hh.form, hh.addr, fun i e j u hi hj => by
    have hne : els.flatten ≠ [] := fun hc => by
      have := List.flatten_eq_nil_iff.1 hc e (List.mem_of_getElem? hi)
      subst this
      simp at hj
    rw [cell_of_block (h (vblk v) (by rw [if_neg hne]; simp))]
    exact hh.cells i e j u hi hj⟩

theorem flatten_at {s : Nat} : ∀ {els : List (List Value)} {i : Nat} {e : List Value} {j : Nat} {u : Value}, (∀ x ∈ els, x.length = s) → els[i]? = some e → e[j]? = some u → els.flatten[i * s + j]? = some u
  | [], i, e, j, u, _, hi, _ => by simp at hi
  | x :: els, 0, e, j, u, hl, hi, hj => by
    simp at hi; subst hi
    obtain ⟨hlt, _⟩ := List.getElem?_eq_some_iff.1 hj
    simp only [List.flatten_cons, Nat.zero_mul, Nat.zero_add]
    rw [List.getElem?_append_left hlt]; exact hj
  | x :: els, i + 1, e, j, u, hl, hi, hj => by
    have hx := hl x (by simp)
    simp only [List.flatten_cons]
    rw [List.getElem?_append_right (by rw [hx, Nat.add_mul]; omega)]
    rw [hx, show (i + 1) * s + j - s = i * s + j from by rw [Nat.add_mul]; omega]
    exact flatten_at (fun y hy => hl y (by simp [hy])) (by simpa using hi) hj

theorem length_flatten {s : Nat} : ∀ {els : List (List Value)}, (∀ x ∈ els, x.length = s) → els.flatten.length = els.length * s
  | [], _ => by simp
  | x :: els, hl => by
    simp only [List.flatten_cons, List.length_append, List.length_cons]
    rw [hl x (by simp), length_flatten (fun y hy => hl y (by simp [hy])), Nat.add_mul]; omega

/-- A slice that the call owns: nil, or at the head of a block of its own. -/
def row (v : Value) (t : TypeId) (s : Nat) (els : List (List Value)) : Sp where
  foot := v.ownBlock.toList
  holds w := w.ownsRow 0 t s v els.length els.flatten ∧ ∀ x ∈ els, x.length = s
  lt w h := (own v t s els.length els.flatten).lt w h.1
  loc w w' h hh := ⟨(own v t s els.length els.flatten).loc w w' h hh.1, hh.2⟩

theorem row_elt {w : World} {v : Value} {t : TypeId} {s : Nat} {els : List (List Value)} (h : (row v t s els).holds w) : Elt w v s els := by
  obtain ⟨ho, hl⟩ := h
  rcases ho.2 with ⟨rfl, hn⟩ | ⟨g, cap, cur, rfl, _, hg, hnc, hcm, hcs, htake⟩
  · have : els = [] := List.eq_nil_of_length_eq_zero hn
    subst this
    exact ⟨by simp, ⟨none, 0, rfl, by simp, by simp [maxLen]⟩, fun h => absurd rfl h, fun i e j u hi => by simp at hi⟩
  · refine ⟨hl, ⟨_, cap, rfl, hnc, hcm⟩, fun _ => ⟨cap, rfl⟩, fun i e j u hi hj => ?_⟩
    have h1 := flatten_at hl hi hj
    have := ho.cells (g := g) rfl _ u h1
    have hadd : (⟨g, 0, none⟩ : Addr).add (i * s + j) = ⟨g, 0 + i * s + j, none⟩ := by unfold Addr.add; split <;> simp_all
    rw [hadd] at this
    exact this

section
variable {c : Cx} {k : List It} {E : Env} {L : List Sp} {ops : Array Oper} {rest : List Oper} {ty : TypeId} {v V : Value} {x y z : Operand} {T t : TypeId} {s : Nat} {els : List (List Value)}

/-! ### Where cells, and elements, are known -/
def Src (c : Cx) (L : List Sp) (v : Value) (s : Nat) (els : List (List Value)) : Prop := c.Ok → ∀ w, St c.w0 c.M L w → Elt w v s els
theorem Src.ro (i : Nat) (hi : c.Ro[i]? = some (rd v s els)) : Src c L v s els := fun ok _ hs => c.ro ok hs hi
theorem Src.row (i : Nat) (hi : L[i]? = some (row v t s els)) : Src c L v s els := fun _ _ hs => row_elt (hs.at_ _ (List.mem_of_getElem? hi))
theorem Src.rd (i : Nat) (hi : L[i]? = some (LK.rd v s els)) : Src c L v s els := fun _ _ hs => hs.at_ _ (List.mem_of_getElem? hi)

/-- From place o of block g on these cells lie. -/
def Cel (c : Cx) (L : List Sp) (g o : Nat) (cs : List Value) : Prop := c.Ok → ∀ w, St c.w0 c.M L w → ∀ j u, cs[j]? = some u → w.cell? ⟨g, o + j, none⟩ = some u
theorem Cel.var {g : Nat} {cs : List Value} (i : Nat) (hi : L[i]? = some (LK.var g cs t)) : Cel c L g 0 cs := fun _ w hs j u hj => by
  have hh : w.heap[g]? = some (.cells cs.toArray t (0, 0)) := hs.at_ _ (List.mem_of_getElem? hi)
  rw [Nat.zero_add, cell_of_row w g j _ t _ hh]; simpa using hj
theorem Cel.roVar {g : Nat} {cs : List Value} (i : Nat) (hi : c.Ro[i]? = some (LK.var g cs t)) : Cel c L g 0 cs := fun ok w hs j u hj => by
  have hh : w.heap[g]? = some (.cells cs.toArray t (0, 0)) := c.ro ok hs hi
  rw [Nat.zero_add, cell_of_row w g j _ t _ hh]; simpa using hj
theorem Cel.elt {i : Nat} {e : List Value} (hs : Src c L v s els) (hi : els[i]? = some e) : Cel c L (vblk v) (voff v + i * s) e := fun ok w hst j u hj => (hs ok w hst).cells i e j u hi hj

theorem Qt.ld {g p o off : Nat} {cs : List Value} (hx : ev E x = some (.pointer (some ⟨g, p, none⟩))) (hc : Cel c L g o cs) (hp : p = o + off) (hu : Cut c.P T cs off v) : Qt c E L (.load T x) ty v := fun ok a w ha hs _ _ _ _ => by
  have := run_cut (w := w) hu (hc ok w hs)
  subst hp
  simp [execOp, ha.ev hx, Instr.loadAt, Instr.sureAddr, this]

theorem Qt.lenE {e : Nat} (hT : ∀ w, (underlying T).run c.P w = .ok (.slice e) w) (hx : ev E x = some V) (hs : Src c L V s els) :
    Qt c E L (.call { callee := .builtin .len, args := #[x], argTypes := #[T] }) ty (.int .i64 els.length) := fun ok a w ha hst _ _ _ _ => by
  obtain ⟨A, cap, hv, _⟩ := (hs ok w hst).form
  exact Pu.len hT (x := x) (E := E) (by rw [hx, hv]) a w ha _ _ _ _

theorem Qt.idx {e : Nat} {m : Int} (hT : ∀ w, (underlying T).run c.P w = .ok (.slice e) w) (hz : ∀ w, (sizeOf e).run c.P w = .ok s w) (hx : ev E x = some V) (hs : Src c L V s els) (hy : ev E y = some (.int .i64 m)) (h0 : 0 ≤ m) (h1 : m < els.length) :
    Qt c E L (.indexAddr T x y) ty (.pointer (some ⟨vblk V, voff V + m.toNat * s, none⟩)) := fun ok a w ha hst _ _ _ _ => by
  obtain ⟨cap, hv⟩ := (hs ok w hst).addr (fun hc => by subst hc; simp at h1; omega)
  exact Pu.indexAddr hT hz (x := x) (y := y) (E := E) (by rw [hx]; exact congrArg some hv) hy h0 h1 a w ha _ _ _ _

/-! ### New memory -/
theorem frame_alloc (w : World) (o : Obj) : Frame w [] (w.alloc o) := ⟨rfl, rfl, rfl, by simp, fun k hk _ => Below.heap_alloc w o k hk⟩

theorem St.alloc {w0 w : World} {M : List Nat} (h : St w0 M L w) (o : Obj) : St w0 M (blk w.heap.size o :: L) (w.alloc o) :=
  h.add (frame_alloc w o) (heap_alloc_new w o) (by simp [blk])

theorem wp_loud {P : Program} {o : Oper} {a : Act} {w w' : World} {v : Value} {K : Act → World → Prop} {Q : Exit → Act → World → Prop} (h : (execOp a.eval o).run P w = .ok (.value v) w') (hk : K (a.put o.dst v) w') : o.wp P a w K Q := by
  unfold Oper.wp; rw [h]; exact hk
theorem wp_loud0 {P : Program} {o : Oper} {a : Act} {w w' : World} {K : Act → World → Prop} {Q : Exit → Act → World → Prop} (h : (execOp a.eval o).run P w = .ok .skip w') (hk : K (a.put o.dst undef) w') : o.wp P a w K Q := by
  unfold Oper.wp; rw [h]; exact hk

theorem run_newRow (P : Program) (t : TypeId) (cs : Array Value) (w : World) : (newRow t cs).run P w = .ok ⟨w.heap.size, 0, none⟩ (w.alloc (.cells cs t)) := by
  simp [newRow, newObj, Sem.run]

theorem Lo.alloc {u : Value} (cs : List Value) (hz : ∀ w, (zeroValue T).run c.P w = .ok u w) (hc : u.cells = cs.toArray) : Lo c E L (.alloc T) ty fun v L' => ∃ g, v = .pointer (some ⟨g, 0, none⟩) ∧ L' = var g cs T :: L := fun _ a w _ hs d pos af g K Q hK =>
  wp_loud (v := .pointer (some ⟨w.heap.size, 0, none⟩)) (w' := w.alloc (.cells cs.toArray T)) (by simp [execOp, Instr.alloc, hz, newVar, hc, run_newRow])
    (hK _ _ _ ⟨_, rfl, rfl⟩ (hs.alloc _))

theorem Lo.box {u : Value} (cs : List Value) (hx : ev E x = some u) (hc : u.cells = cs.toArray) : Lo c E L (.box T x) ty fun v L' => ∃ g, v = .pointer (some ⟨g, 0, none⟩) ∧ L' = var g cs T :: L := fun _ a w ha hs d pos af g K Q hK =>
  wp_loud (v := .pointer (some ⟨w.heap.size, 0, none⟩)) (w' := w.alloc (.cells cs.toArray T)) (by simp [execOp, Instr.box, ha.ev hx, newVar, hc, run_newRow])
    (hK _ _ _ ⟨_, rfl, rfl⟩ (hs.alloc _))

/-! ### Stores -/
theorem setRow_frame (w : World) (g : Nat) (cs : Array Value) : Frame w [g] (w.setRow g cs) :=
  ⟨rfl, rfl, rfl, by simp [World.setRow], fun k _ hk => setRow_other w g k cs (by simpa using hk)⟩

theorem run_store_cells {P : Program} {w : World} {g o sz : Nat} {cur : Array Value} {t T : TypeId} {u : Value} {vs : List Value} (hg : w.heap[g]? = some (.cells cur t (0, 0))) (hs : ∀ w, (sizeOf T).run P w = .ok sz w) (hc : u.cells = vs.toArray) (hl : vs.length = sz)
    (h1 : ∀ v ∈ vs, v.oneCell' = true) (hfit : o + sz ≤ cur.size) :
    (storeVar T ⟨g, o, none⟩ u).run P w = .ok () (w.setRow g (cur.toList.take o ++ vs ++ cur.toList.drop (o + vs.length)).toArray) := by
  have := run_storeCells_at P g o t vs 0 cur w hg (by omega) h1
  simp only [Nat.add_zero] at this
  simp [storeVar, hs, hc, hl, this]

theorem Lo.store (i : Nat) {g off sz : Nat} {cs vs : List Value} {u : Value} (cs' : List Value) (hx : ev E x = some (.pointer (some ⟨g, off, none⟩))) (hy : ev E y = some u) (hi : L[i]? = some (var g cs t)) (hs : ∀ w, (sizeOf T).run c.P w = .ok sz w)
    (hc : u.cells = vs.toArray) (hl : vs.length = sz) (h1 : (vs.all Value.oneCell') = true) (hcs : cs.take off ++ vs ++ cs.drop (off + vs.length) = cs') (hfit : Nat.ble (off + sz) cs.length = true) :
    Lo c E L (.store T x y) ty fun _ L' => L' = L.set i (var g cs' t) := fun _ a w ha hst d pos af gd K Q hK => by
  have hh : w.heap[g]? = some (.cells cs.toArray t (0, 0)) := hst.at_ _ (List.mem_of_getElem? hi)
  have hr := run_store_cells (P := c.P) (o := off) hh hs hc hl (by simpa using h1) (by simpa using Nat.le_of_ble_eq_true hfit)
  refine wp_loud0 (w' := w.setRow g cs'.toArray) (by simp [execOp, ha.ev hx, ha.ev hy, Instr.storeAt, Instr.sureAddr, hr, ← hcs]) ?_
  exact hK _ _ _ rfl (hst.set hi (setRow_frame w g _) (setRow_heap w g _ _ t (0, 0) hh) (fun k hk => .inl hk))

theorem flatten_set {s : Nat} : ∀ {els : List (List Value)} {i : Nat} {e e' : List Value}, (∀ x ∈ els, x.length = s) → els[i]? = some e → e'.length = s → els.flatten.take (i * s) ++ e' ++ els.flatten.drop (i * s + s) = (els.set i e').flatten
  | [], i, e, e', _, hi, _ => by simp at hi
  | x :: els, 0, e, e', hl, hi, he => by
    have hx := hl x (by simp)
    simp only [List.flatten_cons, Nat.zero_mul, List.take_zero, List.nil_append, Nat.zero_add, List.set_cons_zero]
    rw [← hx, List.drop_left]
  | x :: els, i + 1, e, e', hl, hi, he => by
    have hx := hl x (by simp)
    have ih := flatten_set (s := s) (els := els) (i := i) (e := e) (e' := e') (fun y hy => hl y (by simp [hy])) (by simpa using hi) he
    simp only [List.flatten_cons, List.set_cons_succ]
    rw [← ih, List.take_append, List.drop_append, List.take_of_length_le (by rw [hx, Nat.add_mul]; omega), List.drop_of_length_le (by rw [hx, Nat.add_mul]; omega),
      hx, show (i + 1) * s - s = i * s from by rw [Nat.add_mul]; omega, show (i + 1) * s + s - s = i * s + s from by rw [Nat.add_mul]; omega]
    simp [List.append_assoc]

theorem splice_split {fl e vs : List Value} {s j off : Nat} (hd : (fl.drop (j * s)).take s = e) (h : off + vs.length ≤ s) (_hl : j * s + s ≤ fl.length) :
    fl.take (j * s) ++ (e.take off ++ vs ++ e.drop (off + vs.length)) ++ fl.drop (j * s + s) = fl.take (j * s + off) ++ vs ++ fl.drop (j * s + off + vs.length) := by
  have h1 : fl.take (j * s + off) = fl.take (j * s) ++ e.take off := by
    rw [List.take_add, ← hd, List.take_take, Nat.min_eq_left (by omega)]
  have h2 : fl.drop (j * s + off + vs.length) = e.drop (off + vs.length) ++ fl.drop (j * s + s) := by
    rw [show j * s + off + vs.length = j * s + (off + vs.length) from by omega, ← List.drop_drop (i := off + vs.length), ← hd]
    rw [← List.drop_append_of_le_length (by simp; omega), ← List.drop_drop (i := s), List.take_append_drop]
  rw [h1, h2]
  simp [List.append_assoc]

theorem splice_take (cur : List Value) (N a : Nat) (vs : List Value) {fl : List Value} (h : a + vs.length ≤ N) (hN : N ≤ cur.length) (hfl : cur.take N = fl) :
    (cur.take a ++ vs ++ cur.drop (a + vs.length)).take N = fl.take a ++ vs ++ fl.drop (a + vs.length) := by
  subst hfl
  rw [List.take_append, List.take_of_length_le (by simp; omega), List.take_take, Nat.min_eq_left (by omega), List.drop_take]
  congr 2
  simp
  omega

/-- A store into an element of an owned row. -/
theorem Lo.storeE (i : Nat) {g p j off sz : Nat} {e vs : List Value} {u : Value} (e' : List Value) (hx : ev E x = some (.pointer (some ⟨g, p, none⟩))) (hy : ev E y = some u) (hi : L[i]? = some (row V t s els)) (hg : g = vblk V) (hp : p = voff V + j * s + off)
    (hj : els[j]? = some e) (hs : ∀ w, (sizeOf T).run c.P w = .ok sz w)
    (hc : u.cells = vs.toArray) (hl : vs.length = sz) (h1 : (vs.all Value.oneCell') = true) (hcs : e.take off ++ vs ++ e.drop (off + vs.length) = e') (hfit : off + sz ≤ s) :
    Lo c E L (.store T x y) ty fun _ L' => L' = L.set i (row V t s (els.set j e')) := fun _ a w ha hst d pos af gd K Q hK => by
  have hh := hst.at_ _ (List.mem_of_getElem? hi)
  obtain ⟨ho, hlen⟩ := hh
  have hjl : j < els.length := (List.getElem?_eq_some_iff.1 hj).1
  have hel : e.length = s := hlen e (List.mem_of_getElem? hj)
  rcases ho.2 with ⟨rfl, hn⟩ | ⟨b, cap, cur, rfl, _, hb, hnc, hcm, hcz, htake⟩
  · omega
  · have hg' : g = b := hg
    subst hg'
    have hp' : p = j * s + off := by simpa [voff] using hp
    subst hp'
    have he' : e'.length = s := by rw [← hcs]; simp; omega
    have hbig : (j + 1) * s ≤ els.length * s := Nat.mul_le_mul_right s hjl
    have hbig2 : els.length * s ≤ cap * s := Nat.mul_le_mul_right s hnc
    have hj1 : (j + 1) * s = j * s + s := by rw [Nat.add_mul]; omega
    have hr := run_store_cells (P := c.P) (o := j * s + off) hb hs hc hl (by simpa using h1) (by omega)
    refine wp_loud0 (w' := w.setRow g (cur.toList.take (j * s + off) ++ vs ++ cur.toList.drop (j * s + off + vs.length)).toArray) (by simp [execOp, ha.ev hx, ha.ev hy, Instr.storeAt, Instr.sureAddr, hr]) ?_
    refine hK _ _ _ rfl (hst.set hi (by simpa [row, Value.ownBlock] using setRow_frame w g _) ?_ (fun k hk => .inl hk))
    have hlen' : ∀ x ∈ els.set j e', x.length = s := fun x hx => by
      rcases List.mem_or_eq_of_mem_set hx with hx | hx
      · exact hlen x hx
      · rw [hx]; exact he'
    refine ⟨⟨by rw [length_flatten hlen'], .inr ⟨g, cap, _, by simp, Nat.zero_le _, setRow_heap w g _ _ t (0, 0) hb, by simpa using hnc, hcm, ?_, ?_⟩⟩, hlen'⟩
    · simp only [List.size_toArray, List.length_append, List.length_take, List.length_drop, Array.length_toList]; omega
    · have hfl : cur.toList.take (els.length * s) = els.flatten := htake
      have h2 := flatten_set hlen hj he'
      rw [List.length_set, ← h2, ← hcs]
      have hd : (els.flatten.drop (j * s)).take s = e := by
        apply List.ext_getElem?
        intro m
        rw [List.getElem?_take]
        by_cases hm : m < s
        · obtain ⟨u', hu'⟩ : ∃ u', e[m]? = some u' := ⟨_, List.getElem?_eq_getElem (by omega)⟩
          rw [if_pos hm, List.getElem?_drop, hu', flatten_at hlen hj hu']
        · rw [if_neg hm, List.getElem?_eq_none (by omega)]
      have hflen : els.flatten.length = els.length * s := length_flatten hlen
      rw [splice_split (fl := els.flatten) (s := s) (off := off) (vs := vs) hd (by omega) (by omega)]
      exact splice_take cur.toList (els.length * s) (j * s + off) vs (by omega) (by simp; omega) hfl

/-! ### append -/
theorem Lo.append (i : Nat) {Y : Value} {news : List (List Value)} {e : TypeId} {inf : TypeInfo} {zv : Value} {bytes : Nat} (hT : c.P.underlying T = some (.slice t)) (hinf : c.P.info? t = some inf) (hz : inf.zero = some zv) (hsz : inf.size = s) (hby : inf.bytes = bytes) (hzs : zv.cells.size = s) (hs0 : 0 < s)
    (hx : ev E x = some V) (hi : L[i]? = some (row V t s els)) (hy : ev E y = some Y) (hs : Src c L Y s news) (h1 : ∀ e ∈ news, e.all Value.oneCell' = true)
    (h63 : els.length + news.length ≤ maxLen) (hb : (els.length + news.length) * bytes ≤ 140737488355328) :
    Lo c E L (.call { callee := .builtin .append, args := #[x, y], argTypes := #[T, T] }) e fun v L' => L' = L.set i (row v t s (els ++ news)) := fun ok a w ha hst d pos af gd K Q hK => by
  have hh := hst.at_ _ (List.mem_of_getElem? hi)
  obtain ⟨ho, hlen⟩ := hh
  have hE := hs ok w hst
  have hfn := length_flatten hE.len
  have hlen' : ∀ x ∈ els ++ news, x.length = s := fun x hx => by
    rcases List.mem_append.1 hx with hx | hx
    · exact hlen x hx
    · exact hE.len x hx
  obtain ⟨A, cap, hv, _⟩ := hE.form
  rcases A with _ | ad
  · have hn : news = [] := Classical.byContradiction fun hn => by
      obtain ⟨cap', hv'⟩ := hE.addr hn
      rw [hv] at hv'; cases hv'
    subst hn
    have hrun : (Builtin.append_ #[T, T] e #[V, .slice none 0 cap]).run c.P w = .ok V w := by
      clear hK hst hs hE hv
      generalize els.length = n at *
      rcases ho.2 with ⟨rfl, rfl⟩ | ⟨g, cap', cur, rfl, _, _, hnc, _⟩
      · simp [Builtin.append_, run_underlying hT, sizeOf, typeInfo, hinf, Builtin.lenOf, Builtin.firstCells]
      · simp [Builtin.append_, run_underlying hT, sizeOf, typeInfo, hinf, Builtin.lenOf, Builtin.firstCells, hnc, storeCells]
    refine wp_loud (v := V) (w' := w) ?_ (hK _ _ _ rfl ?_)
    · have hy' : a.eval y = .slice none 0 cap := by rw [ha.ev hy, hv]; rfl
      simp [execOp, resolve, invoke, builtin, ha.ev hx, hy', hrun]
    · exact hst.set hi (Frame.refl w _) (by rw [List.append_nil]; exact ⟨ho, hlen⟩) (fun k hk => .inl hk)
  · have hcells : ∀ j u, news.flatten[j]? = some u → w.cell? (ad.add j) = some u := fun j u hu => by
      have hn : news ≠ [] := fun hn => by subst hn; simp at hu
      obtain ⟨cap', hv'⟩ := hE.addr hn
      have had : ad = ⟨vblk Y, voff Y, none⟩ := by
        have h0 := hv.symm.trans hv'
        injection h0 with h0
        injection h0
      have hj : j < news.length * s := by rw [← hfn]; exact (List.getElem?_eq_some_iff.1 hu).1
      have hdm : j / s < news.length := Nat.div_lt_of_lt_mul (by rw [Nat.mul_comm]; exact hj)
      have hm : j % s < s := Nat.mod_lt _ hs0
      have hjj : j / s * s + j % s = j := by rw [Nat.mul_comm]; exact Nat.div_add_mod j s
      obtain ⟨e', he'⟩ : ∃ e', news[j / s]? = some e' := ⟨_, List.getElem?_eq_getElem hdm⟩
      have hle := hE.len e' (List.mem_of_getElem? he')
      obtain ⟨u', hu'⟩ : ∃ u', e'[j % s]? = some u' := ⟨_, List.getElem?_eq_getElem (by omega)⟩
      have h2 := flatten_at hE.len he' hu'
      rw [hjj, hu] at h2
      cases h2
      have h3 := hE.cells _ _ _ _ he' hu'
      rw [Nat.add_assoc, hjj] at h3
      rw [had, add_at]; exact h3
    have h1' : ∀ u ∈ news.flatten, u.oneCell' = true := fun u hu => by
      obtain ⟨e', he', hu'⟩ := List.mem_flatten.1 hu
      exact List.all_eq_true.1 (h1 e' he') u hu'
    obtain ⟨v', w', hr, h2, h3, h4, h5⟩ := run_append_own_at (P := c.P) w 0 T e t inf zv s bytes hT hinf hz hsz hby hzs hs0 V els.length els.flatten ho ad news.length cap news.flatten hfn hcells h1' h63 hb (Nat.zero_le _)
    refine wp_loud (v := v') (w' := w') ?_ (hK _ _ _ rfl ?_)
    · have hy' : a.eval y = .slice (some ad) news.length cap := by rw [ha.ev hy]; exact hv
      simp [execOp, resolve, invoke, builtin, ha.ev hx, hy', hr]
    · refine hst.set hi ⟨h3.os, h3.tape, h3.output, h3.size, fun k hk hn => h3.block k hk (fun e => hn (by simp [row, ← e]))⟩ ⟨by simpa using h2, hlen'⟩ (fun k hk => ?_)
      have hk' : v'.ownBlock = some k := by simpa [row] using hk
      rcases h5 with h5 | h5
      · exact .inl (by simp [row, ← h5, hk'])
      · rw [hk'] at h5; cases h5; exact .inr (Nat.le_refl _)

/-- A row that is nil: nothing is owned. -/
theorem O.nilRow (t : TypeId) (s : Nat) (h : O c ops rest k E (row (.slice none 0 0) t s [] :: L)) : O c ops rest k E L := fun ok a w ha hs =>
  h ok a w ha (hs.add (Frame.refl w _) ⟨World.ownsRow_nil w 0 t s, by simp⟩ (by simp [row, Value.ownBlock]))
theorem J.nilRow (t : TypeId) (s : Nat) (h : J c k E (row (.slice none 0 0) t s [] :: L)) : J c k E L := fun ok a w ha hs =>
  h ok a w ha (hs.add (Frame.refl w _) ⟨World.ownsRow_nil w 0 t s, by simp⟩ (by simp [row, Value.ownBlock]))

/-! ### build, buildSlice -/
theorem Lo.buildSlice {n : Nat} {parts : List (Nat × Operand)} (vs : List (Nat × Value)) (els : List (List Value)) {zv : Value} (hT : ∀ w, (underlying T).run c.P w = .ok (.slice t) w) (hs : ∀ w, (sizeOf t).run c.P w = .ok s w) (hz : ∀ w, (zeroValue t).run c.P w = .ok zv w)
    (hp : parts.map (fun p => (p.1, ev E p.2)) = vs.map (fun p => (p.1, some p.2))) (hn : Nat.ble (n * s) 16777216 = true) (hn0 : Nat.blt 0 (n * s) = true)
    (hf : Instr.fill (fun i => some (i * s, s)) ((Array.range (n * s)).map (zv.cells[· % zv.cells.size]!)) vs = some els.flatten.toArray) (hl : els.length = n) (hle : (els.all (fun e => e.length == s)) = true) :
    Lo c E L (.buildSlice T n parts.toArray) ty fun v L' => L' = row v t s els :: L := fun _ a w ha hst d pos af g K Q hK => by
  have hparts : parts.map (fun p => (p.1, a.eval p.2)) = vs := by
    clear hf
    induction parts generalizing vs with
    | nil => cases vs <;> simp_all
    | cons p parts ih =>
      cases vs with
      | nil => simp at hp
      | cons q vs =>
        simp only [List.map_cons, List.cons.injEq, Prod.mk.injEq] at hp ⊢
        obtain ⟨⟨h1, h2⟩, h3⟩ := hp
        refine ⟨?_, ih vs h3⟩
        rw [ha.ev h2, h1]
  have h24 : ¬ (n * s > 2 ^ 24) := by have := Nat.le_of_ble_eq_true hn; omega
  have hne : n * s ≠ 0 := by have := Nat.le_of_ble_eq_true hn0; omega
  have hle' : ∀ x ∈ els, x.length = s := by simpa using hle
  refine wp_loud (v := .slice (some ⟨w.heap.size, 0, none⟩) n n) (w' := w.alloc (.cells els.flatten.toArray t)) ?_ (hK _ _ _ rfl (hst.add (frame_alloc w _) ⟨?_, hle'⟩ (by simp [row, Value.ownBlock])))
  · simp only [execOp, List.map_toArray]
    simp [Instr.buildSlice, hT, hs, hz, hparts, h24, hne, hf, run_newRow]
  · refine ⟨length_flatten hle', .inr ⟨w.heap.size, n, _, by rw [hl], Nat.zero_le _, heap_alloc_new w _, by omega, ?_, by simp [length_flatten hle', hl], ?_⟩⟩
    · have := Nat.le_of_ble_eq_true hn
      have hs0 : 0 < s := Nat.pos_of_ne_zero fun e => hne (by rw [e]; simp)
      have := Nat.le_mul_of_pos_right n hs0
      unfold maxLen; omega
    · rw [List.take_of_length_le (by simp [length_flatten hle'])]

theorem Pu.build {parts : List (Nat × Operand)} {fs : Array Field} (vs : List (Nat × Value)) (cs : List Value) {zv : Value} (places : Array (Nat × Nat)) (hT : ∀ w, (underlying T).run c.P w = .ok (.struct fs) w) (hz : ∀ w, (zeroValue T).run c.P w = .ok zv w)
    (hpl : ∀ w, (fs.mapM (m := Sem) fun f => Prod.mk f.offset <$> sizeOf f.type).run c.P w = .ok places w) (hp : parts.map (fun p => (p.1, ev E p.2)) = vs.map (fun p => (p.1, some p.2)))
    (hf : Instr.fill (places[·]?) zv.cells vs = some cs.toArray) : Pu c E (.build T parts.toArray) ty (.agg cs.toArray) := fun a w ha _ _ _ _ => by
  have hparts : parts.map (fun p => (p.1, a.eval p.2)) = vs := by
    clear hf
    induction parts generalizing vs with
    | nil => cases vs <;> simp_all
    | cons p parts ih =>
      cases vs with
      | nil => simp at hp
      | cons q vs =>
        simp only [List.map_cons, List.cons.injEq, Prod.mk.injEq] at hp ⊢
        obtain ⟨⟨h1, h2⟩, h3⟩ := hp
        refine ⟨?_, ih vs h3⟩
        rw [ha.ev h2, h1]
  simp only [execOp, List.map_toArray]
  have hpl' := hpl w
  simp [Instr.build, hT, hz, hparts]
  simp [hpl', hf]

/-! ### Calls -/
def RoOk (c : Cx) (L LC RoC : List Sp) : Prop := c.Ok → ∀ w, St c.w0 c.M L w → ∀ A ∈ RoC, A.holds w ∧ ∀ k ∈ A.foot, k ∉ feet LC

theorem RoOk.nil {LC : List Sp} : RoOk c L LC [] := fun _ _ _ A hA => by simp at hA
theorem RoOk.ro {LC RoC : List Sp} {A : Sp} (i : Nat) (hi : c.Ro[i]? = some A) (is : List Nat) (hL : LK.sel L is = LC) (h : RoOk c L LC RoC) : RoOk c L LC (A :: RoC) := fun ok w hs B hB => by
  rcases List.mem_cons.1 hB with rfl | hB
  · refine ⟨c.ro ok hs hi, fun k hk hk' => ?_⟩
    obtain ⟨h1, h2⟩ := ok B (List.mem_of_getElem? hi)
    have hkL : k ∈ feet L := by
      rw [← hL] at hk'
      obtain ⟨C, hC, hkC⟩ := mem_feet.1 hk'
      obtain ⟨j, _, hj⟩ := List.mem_filterMap.1 hC
      exact mem_feet.2 ⟨C, List.mem_of_getElem? hj, hkC⟩
    rcases hs.mine k hkL with h3 | h3
    · have := B.lt _ h1 k hk; omega
    · exact h2 k hk h3
  · exact h ok w hs B hB
/-- What the caller owns, and does not hand over, may be read. -/
theorem RoOk.of {LC RoC : List Sp} {A B : Sp} (j : Nat) (hj : L[j]? = some B) (hAB : ∀ w, B.holds w → A.holds w ∧ ∀ k ∈ A.foot, k ∈ B.foot) (is : List Nat) (hn : j ∉ is) (hL : LK.sel L is = LC) (h : RoOk c L LC RoC) : RoOk c L LC (A :: RoC) := fun ok w hs C hC => by
  rcases List.mem_cons.1 hC with rfl | hC
  · obtain ⟨h1, h2⟩ := hAB w (hs.at_ _ (List.mem_of_getElem? hj))
    refine ⟨h1, fun k hk hk' => ?_⟩
    rw [← hL] at hk'
    obtain ⟨D, hD, hkD⟩ := mem_feet.1 hk'
    obtain ⟨i, hi, hi'⟩ := List.mem_filterMap.1 hD
    have hne : j ≠ i := fun e => hn (by rw [e]; exact hi)
    exact hs.nd' hne hj hi' k (h2 k hk) hkD
  · exact h ok w hs C hC
theorem RoOk.sub {LC RoC : List Sp} (h : ∀ A ∈ RoC, A ∈ c.Ro) (is : List Nat) (hL : LK.sel L is = LC) : RoOk c L LC RoC := fun ok w hs A hA => by
  obtain ⟨i, hi⟩ := List.mem_iff_getElem?.1 (h A hA)
  exact RoOk.ro (RoC := []) i hi is hL RoOk.nil ok w hs A (by simp)
theorem same_rd {A : Sp} : ∀ w, A.holds w → A.holds w ∧ ∀ k ∈ A.foot, k ∈ A.foot := fun _ h => ⟨h, fun _ hk => hk⟩

theorem Lo.callV {f : FuncId} {xs : List Operand} {ts : Array TypeId} {vs caps : List Value} {RoC LC : List Sp} {post : Value → List Sp → Prop} (hcall : ∀ args w, (callFunc f args).run c.P w = .ok (.enter f args) w) (hx : ev E x = some (.func (.func f) #[] caps.toArray))
    (hxs : xs.map (ev E) = vs.map some) (ht : Tri c.P f (vs ++ caps).toArray RoC LC post) (is js : List Nat) (hn : (is ++ js).Nodup) (hL : LK.sel L is = LC) (R : List Sp) (hR : LK.sel L js = R) (hro : RoOk c L LC RoC) :
    Lo c E L (.call { callee := .value x, args := xs.toArray, argTypes := ts }) ty fun v L' => ∃ Lp, post v Lp ∧ L' = Lp ++ R := fun ok a w ha hst d pos af g K Q hK => by
  have hsel : St c.w0 c.M (LC ++ R) w := by
    have := hst.sel hn
    rwa [show LK.sel L (is ++ js) = LC ++ R from by rw [← hL, ← hR]; simp [LK.sel]] at this
  have hpw := List.pairwise_append.1 hsel.nd
  have hC : St w (feet LC) LC w := ⟨Frame.refl w _, fun A hA => hsel.at_ A (by simp [hA]), hpw.1, fun k hk => .inr hk⟩
  have hcalls := ht w (hro ok w hst) hC
  have hexec : (execOp a.eval ⟨d, .call { callee := .value x, args := xs.toArray, argTypes := ts }, ty, pos, af, g⟩).run c.P w = .ok (.enter f (vs ++ caps).toArray) w := by
    have h1 : xs.map a.eval = vs := ha.evs hxs
    simp [execOp, resolve, Deferred.ofValue, invoke, ha.ev hx, h1, hcall]
  unfold Oper.wp
  rw [hexec]
  refine Calls.mono hcalls ?_
  rintro e w' ⟨v, Lp, rfl, hp, hs'⟩
  exact hK v _ w' ⟨Lp, hp, rfl⟩ (hsel.step hs'.fr hs'.at_ hs'.nd (fun k hk => (hs'.mine k hk).symm))

theorem Lo.call {f : FuncId} {xs : List Operand} {ts : Array TypeId} (vs : List Value) {RoC LC : List Sp} {post : Value → List Sp → Prop} (hcall : ∀ args w, (callFunc f args).run c.P w = .ok (.enter f args) w)
    (hxs : xs.map (ev E) = vs.map some) (ht : Tri c.P f vs.toArray RoC LC post) (is js : List Nat) (hn : (is ++ js).Nodup) (hL : LK.sel L is = LC) (R : List Sp) (hR : LK.sel L js = R) (hro : RoOk c L LC RoC) :
    Lo c E L (.call { callee := .value (.func f), args := xs.toArray, argTypes := ts }) ty fun v L' => ∃ Lp, post v Lp ∧ L' = Lp ++ R :=
  Lo.callV (caps := []) (x := .func f) hcall rfl hxs (by simpa using ht) is js hn hL R hR hro

/-! ### Ends -/
def RV (c : Cx) (E : Env) (L : List Sp) : ResultVar → Value → Prop
  | .tmp t, v => look E t = some v
  | .cell t T, v => ∃ g p o off cs, look E t = some (.pointer (some ⟨g, p, none⟩)) ∧ Cel c L g o cs ∧ p = o + off ∧ Cut c.P T cs off v

def RVs (c : Cx) (E : Env) (L : List Sp) : List ResultVar → List Value → Prop
  | [], [] => True
  | r :: rs, v :: vs => RV c E L r v ∧ RVs c E L rs vs
  | _, _ => False

def resOf (a : Act) : ResultVar → Sem Value
  | .tmp t => pure (a.tmps.getD t undef)
  | .cell b t => do loadVar t (← asAddr (a.tmps.getD b undef))

theorem run_results {a : Act} {w : World} (ok : c.Ok) (ha : Has c.n a E) (hs : St c.w0 c.M L w) : ∀ {rs : List ResultVar} {vs : List Value}, RVs c E L rs vs → (rs.mapM (resOf a)).run c.P w = .ok vs w
  | [], [], _ => by simp
  | [], _ :: _, h => h.elim
  | _ :: _, [], h => h.elim
  | .tmp t :: rs, v :: vs, h => by
    have ih := run_results ok ha hs h.2
    have h1 := ha.at_ t v h.1
    simp only [List.mapM_cons, Sem.run_bind, Sem.run_pure, Result.andThen_ok, ih, h1, resOf]
  | .cell t T :: rs, v :: vs, h => by
    have ih := run_results ok ha hs h.2
    obtain ⟨g, p, o, off, cs, h1, h2, rfl, h3⟩ := h.1
    have h1' := ha.at_ t _ h1
    have h4 := run_cut (w := w) h3 (h2 ok w hs)
    simp only [List.mapM_cons, Sem.run_bind, Sem.run_pure, Result.andThen_ok, ih, h1', resOf, asAddr, h4]

def vOf : List Value → Value
  | [v] => v
  | vs => .tuple vs.toArray

theorem Fin.mk {rs : List ResultVar} (hr : c.fn.results = rs.toArray) (vs : List Value) (hv : RVs c E L rs vs) (is : List Nat) (hn : is.Nodup) (L' : List Sp) (hL : LK.sel L is = L') (h : ∀ w, St c.w0 c.M L' w → c.R (.returned (vOf vs)) w) : Fin c E L := fun ok a w ha hs => by
  refine ⟨vOf vs, ?_, h w (hL ▸ hs.sel hn)⟩
  have h1 := run_results ok ha hs hv
  have h2 : results c.fn a.tmps = (do let vs ← c.fn.results.mapM (resOf a); pure (if h : vs.size = 1 then vs[0] else .tuple vs)) := rfl
  rw [h2, hr, List.mapM_toArray]
  simp only [map_eq_pure_bind, Sem.run_bind, h1, Result.andThen_ok, Sem.run_pure]
  match vs with
  | [] => rfl
  | [v] => rfl
  | v :: u :: vs => simp [vOf]
end
end Go.LK
