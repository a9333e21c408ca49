/-
  The rules at typed lists: a row, or a slice that may be read, whose elements are 'l.map f'; small words for the walks.
-/
import Derived.Test.YtnkhmbbnabejhaaLk5
namespace Go.LK
open Go Go.RowKit

theorem one_cells {v : Value} (h : v.oneCell' = true) : v.cells = [v].toArray := by cases v <;> simp_all [Value.oneCell', Value.cells]
theorem one_all {v : Value} (h : v.oneCell' = true) : [v].all Value.oneCell' = true := by simp [h]
theorem elt_one {w : World} {v : Value} {s : Nat} {els : List (List Value)} (h : Elt w v s els) : v.oneCell' = true := by
  obtain ⟨A, cap, rfl, _⟩ := h.form
  rfl

/-- A loop over a list: what has been gathered behind the first k elements. -/
def upI {σ α : Type} (f : σ → Nat → α → σ) (z : σ) (l : List α) : Nat → σ
  | 0 => z
  | k + 1 => match l[k]? with
    | some e => f (upI f z l k) k e
    | none => upI f z l k
theorem upI_succ {σ α : Type} {f : σ → Nat → α → σ} {z : σ} {l : List α} {k : Nat} {e : α} (h : l[k]? = some e) : upI f z l (k + 1) = f (upI f z l k) k e := by simp [upI, h]

theorem find_at {α : Type} {p : α → Bool} : ∀ {l : List α} {k : Nat} {e : α}, (∀ j x, j < k → l[j]? = some x → p x = false) → l[k]? = some e → p e = true → l.find? p = some e
  | [], k, e, _, h, _ => by simp at h
  | y :: l, 0, e, _, h, hp => by simp at h; subst h; simp [hp]
  | y :: l, k + 1, e, hn, h, hp => by
    have hy := hn 0 y (by omega) rfl
    simp only [List.find?_cons, hy]
    exact find_at (k := k) (fun j x hj hx => hn (j + 1) x (by omega) hx) h hp
theorem find_no {α : Type} {p : α → Bool} {l : List α} {k : Nat} (hn : ∀ j x, j < k → l[j]? = some x → p x = false) (hk : l.length ≤ k) : l.find? p = none := by
  rw [List.find?_eq_none]
  intro x hx
  obtain ⟨j, hj⟩ := List.mem_iff_getElem?.1 hx
  have hlt := (List.getElem?_eq_some_iff.1 hj).1
  simp [hn j x (by omega) hj]
theorem none_step {α : Type} {p : α → Bool} {l : List α} {k : Nat} {e : α} (hn : ∀ j x, j < k → l[j]? = some x → p x = false) (he : l[k]? = some e) (hp : p e = false) : ∀ j x, j < k + 1 → l[j]? = some x → p x = false := by
  intro j x hj hx
  by_cases h : j = k
  · subst h; rw [he] at hx; cases hx; exact hp
  · exact hn j x (by omega) hx

theorem not_flip {b r : Bool} (h : (!b) = r) : b = !r := by cases b <;> cases r <;> simp_all

theorem not_of_true {b : Bool} (h : b = true) : (!b) = false := by rw [h]; rfl
theorem not_of_false {b : Bool} (h : b = false) : (!b) = true := by rw [h]; rfl

theorem by_bool {p : Prop} (b : Bool) (h1 : b = true → p) (h2 : b = false → p) : p := by cases b; exact h2 rfl; exact h1 rfl

section
variable {c : Cx} {k : List It} {E : Env} {L : List Sp} {ops : Array Oper} {rest : List Oper} {ty : TypeId} {v V : Value} {x y z : Operand} {T t : TypeId} {s : Nat}
variable {α : Type} {f : α → List Value} {l : List α}

theorem J.bound {els : List (List Value)} (hs : Src c L V s els) (h : els.length ≤ 9223372036854775807 → J c k E L) : J c k E L := fun ok a w ha hst => h (by
  obtain ⟨A, cap, _, h1, h2⟩ := (hs ok w hst).form
  unfold maxLen at h2; omega) ok a w ha hst
theorem J.one {els : List (List Value)} (hs : Src c L V s els) (h : V.oneCell' = true → J c k E L) : J c k E L := fun ok a w ha hst => h (elt_one (hs ok w hst)) ok a w ha hst
theorem O.one {els : List (List Value)} (hs : Src c L V s els) (h : V.oneCell' = true → O c ops rest k E L) : O c ops rest k E L := fun ok a w ha hst => h (elt_one (hs ok w hst)) ok a w ha hst
theorem W.one {els : List (List Value)} {i m : Nat} {listed : Array Bool} (hs : Src c L V s els) (h : V.oneCell' = true → W c ops i m listed k E L) : W c ops i m listed k E L := fun ok a w ha hst => h (elt_one (hs ok w hst)) ok a w ha hst
theorem D.one {els : List (List Value)} {m : Nat} {listed : Array Bool} (hs : Src c L V s els) (h : V.oneCell' = true → D c ops m listed k E L) : D c ops m listed k E L := fun ok a w ha hst => h (elt_one (hs ok w hst)) ok a w ha hst

theorem Qt.lenM {e : Nat} (hT : ∀ w, (underlying T).run c.P w = .ok (.slice e) w) (hx : ev E x = some V) (hs : Src c L V s (l.map f)) :
    Qt c E L (.call { callee := .builtin .len, args := #[x], argTypes := #[T] }) ty (.int .i64 l.length) := by
  have := Qt.lenE (ty := ty) hT hx hs
  rwa [List.length_map] at this

theorem Qt.idxM {e : Nat} {m : Int} (hT : ∀ w, (underlying T).run c.P w = .ok (.slice e) w) (hz : ∀ w, (sizeOf e).run c.P w = .ok s w) (hx : ev E x = some V) (hs : Src c L V s (l.map f)) (hy : ev E y = some (.int .i64 m)) (h0 : 0 ≤ m) (h1 : m < l.length) :
    Qt c E L (.indexAddr T x y) ty (.pointer (some ⟨vblk V, voff V + m.toNat * s, none⟩)) := Qt.idx hT hz hx hs hy h0 (by rwa [List.length_map])

theorem Cel.eltM {i : Nat} {a : α} (hs : Src c L v s (l.map f)) (hi : l[i]? = some a) : Cel c L (vblk v) (voff v + i * s) (f a) := Cel.elt hs (by rw [List.getElem?_map, hi]; rfl)

theorem Lo.appendM (i : Nat) {Y : Value} {l' : List α} {e : TypeId} {inf : TypeInfo} {zv : Value} {bytes : Nat} (hT : c.P.underlying T = some (.slice t)) (hinf : c.P.info? t = some inf) (hz : inf.zero = some zv) (hsz : inf.size = s) (hby : inf.bytes = bytes) (hzs : zv.cells.size = s) (hs0 : Nat.blt 0 s = true)
    (hx : ev E x = some V) (hi : L[i]? = some (row V t s (l.map f))) (hy : ev E y = some Y) (hs : Src c L Y s (l'.map f)) (h1 : ∀ a ∈ l', (f a).all Value.oneCell' = true)
    (h63 : l.length + l'.length ≤ 9223372036854775807) (hb : (l.length + l'.length) * bytes ≤ 140737488355328) :
    Lo c E L (.call { callee := .builtin .append, args := #[x, y], argTypes := #[T, T] }) e fun v L' => L' = L.set i (row v t s ((l ++ l').map f)) := by
  have := Lo.append (c := c) (E := E) (L := L) (e := e) i hT hinf hz hsz hby hzs (Nat.le_of_ble_eq_true hs0) hx hi hy hs (by simpa using h1) (by simpa [maxLen] using h63) (by simpa using hb)
  simpa using this

theorem Lo.storeM (i : Nat) {g p j off sz : Nat} {a : α} {e vs : List Value} {u : Value} (a' : α) (hx : ev E x = some (.pointer (some ⟨g, p, none⟩))) (hy : ev E y = some u) (hi : L[i]? = some (row V t s (l.map f))) (hg : g = vblk V) (hp : p = voff V + j * s + off)
    (hj : l[j]? = some a) (he : f a = e) (hs : ∀ w, (sizeOf T).run c.P w = .ok sz w)
    (hc : u.cells = vs.toArray) (hl : vs.length = sz) (h1 : (vs.all Value.oneCell') = true) (hcs : e.take off ++ vs ++ e.drop (off + vs.length) = f a') (hfit : Nat.ble (off + sz) s = true) :
    Lo c E L (.store T x y) ty fun _ L' => L' = L.set i (row V t s ((l.set j a').map f)) := by
  have := Lo.storeE (c := c) (E := E) (L := L) (ty := ty) (j := j) (e := e) i (f a') hx hy hi hg hp (by rw [List.getElem?_map, hj, ← he]; rfl) hs hc hl h1 hcs (Nat.le_of_ble_eq_true hfit)
  simpa [List.map_set] using this

theorem Lo.buildM {n : Nat} {parts : List (Nat × Operand)} (f : α → List Value) (l : List α) (vs : List (Nat × Value)) {zv : Value} (hT : ∀ w, (underlying T).run c.P w = .ok (.slice t) w) (hs : ∀ w, (sizeOf t).run c.P w = .ok s w) (hz : ∀ w, (zeroValue t).run c.P w = .ok zv w)
    (hp : parts.map (fun p => (p.1, ev E p.2)) = vs.map (fun p => (p.1, some p.2))) (hn : Nat.ble (n * s) 16777216 = true) (hn0 : Nat.blt 0 (n * s) = true)
    (hf : Instr.fill (fun i => some (i * s, s)) ((Array.range (n * s)).map (zv.cells[· % zv.cells.size]!)) vs = some (l.map f).flatten.toArray) (hl : (l.map f).length = n) (hle : ((l.map f).all (fun e => e.length == s)) = true) :
    Lo c E L (.buildSlice T n parts.toArray) ty fun v L' => L' = row v t s (l.map f) :: L := Lo.buildSlice vs (l.map f) hT hs hz hp hn hn0 hf hl hle

theorem Fin.ret {w : World} {M : List Nat} {post : Value → List Sp → Prop} {P : Program} {fn : Func} {n : Nat} {Ro : List Sp} {rs : List ResultVar} (hr : fn.results = rs.toArray) (vs : List Value) (hv : RVs ⟨P, fn, n, w, M, Ro, endPost w M post⟩ E L rs vs) (is : List Nat) (hn : is.Nodup) (L' : List Sp) (hL : LK.sel L is = L') (h : post (vOf vs) L') :
    Fin ⟨P, fn, n, w, M, Ro, endPost w M post⟩ E L := Fin.mk hr vs hv is hn L' hL fun _ hs => ⟨_, _, rfl, h, hs⟩
end
end Go.LK
