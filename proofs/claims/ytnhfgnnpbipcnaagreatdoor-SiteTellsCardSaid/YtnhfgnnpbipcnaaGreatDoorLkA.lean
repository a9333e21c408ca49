/-
  Several texts in one: Lk5, Lk6, Lk7, Lk8.
-/
import Derived.Test.YtnhfgnnpbipcnaaGreatDoorLkK
import Derived.StillTail
namespace Go.LK
open Go Go.RowKit

section
variable {c : Cx} {k : List It} {E : Env} {L : List Sp} {ops : Array Oper} {rest : List Oper} {o : Op} {ty : TypeId} {d : Nat} {pos : String} {af : Array Edge} {v : Value}

theorem St.drew' {w0 w : World} {M : List Nat} (h : St w0 M L w) : St w0 M L { w with drawn := w.drawn + 1 } := h.drew _

/-! ### Operations that leave the world as it is, in the order of the text -/
def S (c : Cx) (ops : Array Oper) (T : World → Act → Prop) (rest : List Oper) (E : Env) (L : List Sp) : Prop := c.Ok → ∀ a w, Has c.n a E → St c.w0 c.M L w → wpStill c.P ops w (T w) rest a

section
variable {T : World → Act → Prop}
theorem still_of_run {P : Program} {o : Oper} {a : Act} {w : World} {v : Value} {K : Act → Prop} (h : (execOp a.eval o).run P w = .ok (.value v) w) (hk : K (a.put o.dst v)) : o.still P a w K := by
  unfold Oper.still; rw [h]; exact ⟨rfl, hk⟩

theorem S.q (hq : Qt c E L o ty v) (hd : Nat.blt d c.n = true) (h : S c ops T rest ((d, v) :: E) L) : S c ops T (⟨some d, o, ty, pos, af, none⟩ :: rest) E L := fun ok a w ha hs =>
  wpStill_step fun _ hK => by
    rw [if_pos (by simp [Region.wanted])]
    exact still_of_run (hq ok a w ha hs _ _ _ _) (hK _ (h ok _ w (ha.put v hd) hs))
theorem S.p (hq : Pu c E o ty v) (hd : Nat.blt d c.n = true) (h : S c ops T rest ((d, v) :: E) L) : S c ops T (⟨some d, o, ty, pos, af, none⟩ :: rest) E L := S.q hq.qt hd h
theorem S.m {x : Operand} (hx : ev E x = some v) (hd : Nat.blt d c.n = true) (h : S c ops T rest ((d, v) :: E) L) : S c ops T (⟨some d, .move x, ty, pos, af, none⟩ :: rest) E L := S.p (Pu.move hx) hd h
theorem S.gq {j t : Nat} {want b : Bool} (hj : (ops[j]?).bind (·.dst) = some t) (ht : look E t = some (.bool b)) (hb : b = want) (hn : Nat.blt t c.n = true) (hq : Qt c E L o ty v) (hd : Nat.blt d c.n = true)
    (h : S c ops T rest ((d, v) :: E) L) : S c ops T (⟨some d, o, ty, pos, af, some (j, want)⟩ :: rest) E L := fun ok a w ha hs =>
  wpStill_step fun _ hK => by
    rw [wanted_yes (j := j) (t := t) (want := want) ha rfl hj (hb ▸ ht) hn, if_pos rfl]
    exact still_of_run (hq ok a w ha hs _ _ _ _) (hK _ (h ok _ w (ha.put v hd) hs))
theorem S.gskip {j t : Nat} {want : Bool} {u : Value} (hj : (ops[j]?).bind (·.dst) = some t) (ht : look E t = some u) (hu : boolOf u ≠ some want) (hn : Nat.blt t c.n = true) (hd : Nat.blt d c.n = true)
    (h : S c ops T rest ((d, undef) :: E) L) : S c ops T (⟨some d, o, ty, pos, af, some (j, want)⟩ :: rest) E L := fun ok a w ha hs =>
  wpStill_step fun _ hK => by
    rw [wanted_no (j := j) (t := t) (want := want) ha rfl hj ht hu hn, if_neg (by simp)]
    exact hK _ (h ok _ w (ha.put undef hd) hs)
end

theorem S.endO {tail : List Oper} (h : O c ops tail k E L) : S c ops (fun w a => wpList c.P ops (c.Q k) tail a w) [] E L := fun ok a w ha hs => wpStill_nil (h ok a w ha hs)
theorem S.endJ (h : J c k E L) : S c ops (fun w a => c.Q k .normal a w) [] E L := fun ok a w ha hs => wpStill_nil (h ok a w ha hs)

theorem J.drawTail {id : Nat} {l : List Oper} (n : Nat) (hm : c.P.follows .mixedOrders = true) (hB : Region.lexTailB .any l.toArray n = true) (h : S c l.toArray (fun w a => wpList c.P l.toArray (c.Q k) (l.drop n) a w) (l.take n) E L) :
    J c (.code (.region id l.toArray true) :: k) E L := fun ok a w ha hs => wp_region_still_tail n hm hB (h ok a _ ha hs.drew')
theorem J.drawStill {id : Nat} {l : List Oper} (hm : c.P.follows .mixedOrders = true) (hB : Region.lexB .any l.toArray = true) (h : S c l.toArray (fun w a => c.Q k .normal a w) l E L) :
    J c (.code (.region id l.toArray true) :: k) E L := fun ok a w ha hs => wp_region_still hm hB (by simpa using h ok a _ ha hs.drew')

/-! ### Any order -/
def D (c : Cx) (ops : Array Oper) (m : Nat) (listed : Array Bool) (k : List It) (E : Env) (L : List Sp) : Prop := c.Ok → ∀ a w, Has c.n a E → St c.w0 c.M L w → wpAny c.P .any ops (c.Q k) m listed a w
def W (c : Cx) (ops : Array Oper) (i m : Nat) (listed : Array Bool) (k : List It) (E : Env) (L : List Sp) : Prop := c.Ok → ∀ a w, Has c.n a E → St c.w0 c.M L w → wpOp c.P ops (c.Q k) i (wpAny c.P .any ops (c.Q k) m (listed.setIfInBounds i true)) a w
def Wall (c : Cx) (ops : Array Oper) (m : Nat) (listed : Array Bool) (k : List It) (E : Env) (L : List Sp) : List Nat → Prop
  | [] => True
  | i :: rs => W c ops i m listed k E L ∧ Wall c ops m listed k E L rs

theorem J.draw {id : Nat} {l : List Oper} (hm : c.P.follows .mixedOrders = true) (listed : Array Bool) (hl : Array.replicate l.length false = listed) (h : D c l.toArray l.length listed k E L) : J c (.code (.region id l.toArray true) :: k) E L := fun ok a w ha hs =>
  wp_region_any hm (by simpa [hl] using h ok a _ ha hs.drew')

theorem Wall.mem {m : Nat} {listed : Array Bool} : ∀ {rs : List Nat}, Wall c ops m listed k E L rs → ∀ i ∈ rs, W c ops i m listed k E L
  | [], _, i, hi => by simp at hi
  | j :: rs, h, i, hi => by
    rcases List.mem_cons.1 hi with rfl | hi
    · exact h.1
    · exact h.2.mem i hi

theorem D.all {m : Nat} {listed : Array Bool} (i : Nat) (rs : List Nat) (hr : Region.ready .any ops listed = i :: rs) (h : Wall c ops m listed k E L (i :: rs)) : D c ops (m + 1) listed k E L := fun ok a w ha hs =>
  wpAny_all hr (by simp) fun j hj => h.mem j hj ok a w ha hs

theorem D.nilRow {m : Nat} {listed : Array Bool} (t : TypeId) (s : Nat) (h : D c ops m listed k E (row (.slice none 0 0) t s [] :: L)) : D c ops m listed k E L := fun ok a w ha hs =>
  h ok a w ha (hs.add (Frame.refl w _) ⟨World.ownsRow_nil w 0 t s, by simp⟩ (by simp [row, Value.ownBlock]))
theorem W.nilRow {i m : Nat} {listed : Array Bool} (t : TypeId) (s : Nat) (h : W c ops i m listed k E (row (.slice none 0 0) t s [] :: L)) : W c ops i m listed k E L := fun ok a w ha hs =>
  h ok a w ha (hs.add (Frame.refl w _) ⟨World.ownsRow_nil w 0 t s, by simp⟩ (by simp [row, Value.ownBlock]))
theorem D.done {m : Nat} {listed : Array Bool} (hr : Region.ready .any ops listed = []) (h : J c k E L) : D c ops m listed k E L := fun ok a w ha hs => wpAny_done hr (h ok a w ha hs) m

theorem Q_panic {P : Program} {R0 : Exit → Act → World → Prop} {ch : List PanicEntry} {a : Act} {w : World} : ∀ {k : List It}, Qof P R0 k (.panic ch) a w = R0 (.panic ch) a w
  | [] => rfl
  | .blk _ :: k => Q_panic (k := k)
  | .code _ :: k => Q_panic (k := k)
  | .scp :: k => Q_panic (k := k)
  | .lp _ :: k => Q_panic (k := k)

theorem D.take {m : Nat} {listed listed' : Array Bool} (i : Nat) (hi : ops[i]? = some ⟨some d, o, ty, pos, af, none⟩) (hs : Region.noSelect ops = true) (hf : Region.free .any ops listed i = true) (hr : (Region.ready .any ops listed).contains i = true)
    (hl : listed.setIfInBounds i true = listed') (hq : Pu c E o ty v) (hd : Nat.blt d c.n = true) (h : D c ops m listed' k ((d, v) :: E) L) : D c ops (m + 1) listed k E L := fun ok a w ha hst =>
  wpAny_take hi hs hf hr (fun ch a _ hp => by rw [Cx.Q, Q_panic] at hp ⊢; exact hp) (.inl ⟨by simp [Region.wanted], fun w => hq a w ha _ _ _ _⟩) (hl ▸ h ok _ w (ha.put v hd) hst)

theorem W.q {i m : Nat} {listed listed' : Array Bool} (hi : ops[i]? = some ⟨some d, o, ty, pos, af, none⟩) (hl : listed.setIfInBounds i true = listed') (hq : Qt c E L o ty v) (hd : Nat.blt d c.n = true) (h : D c ops m listed' k ((d, v) :: E) L) : W c ops i m listed k E L := fun ok a w ha hs => by
  unfold wpOp
  simp only [hi]
  rw [if_pos (by simp [Region.wanted])]
  exact .inl (wp_of_run (hq ok a w ha hs _ _ _ _) (hl ▸ h ok _ w (ha.put v hd) hs))
theorem W.l {i m : Nat} {listed listed' : Array Bool} {R : Value → List Sp → Prop} (hi : ops[i]? = some ⟨some d, o, ty, pos, af, none⟩) (hl : listed.setIfInBounds i true = listed') (hq : Lo c E L o ty R) (hd : Nat.blt d c.n = true) (h : ∀ v L', R v L' → D c ops m listed' k ((d, v) :: E) L') : W c ops i m listed k E L := fun ok a w ha hs => by
  unfold wpOp
  simp only [hi]
  rw [if_pos (by simp [Region.wanted])]
  exact .inl (hq ok a w ha hs _ _ _ _ _ _ fun v L' w' hR hs' => hl ▸ h v L' hR ok _ w' (ha.put v hd) hs')
theorem W.l0 {i m : Nat} {listed listed' : Array Bool} {R : Value → List Sp → Prop} (hi : ops[i]? = some ⟨none, o, ty, pos, af, none⟩) (hl : listed.setIfInBounds i true = listed') (hq : Lo c E L o ty R) (h : ∀ v L', R v L' → D c ops m listed' k E L') : W c ops i m listed k E L := fun ok a w ha hs => by
  unfold wpOp
  simp only [hi]
  rw [if_pos (by simp [Region.wanted])]
  exact .inl (hq ok a w ha hs _ _ _ _ _ _ fun v L' w' hR hs' => hl ▸ h v L' hR ok _ w' ha hs')

/-! ### Ways meet again -/
theorem J.cut {X : Type} (φ : X → Prop) (EE : X → Env) (LL : X → List Sp) {x : Code} (h : J c (.code x :: .lp (inv c φ EE LL (fun _ => 0) 1) :: k) E L) (h' : ∀ y, φ y → J c k (EE y) (LL y)) : J c (.code x :: k) E L := fun ok a w ha hs => by
  refine Code.wp_mono (fun e a w q => ?_) (h ok a w ha hs)
  cases e with
  | normal =>
    obtain ⟨y, hφ, _, ha', hs'⟩ := q
    exact h' y hφ ok a w ha' hs'
  | _ => exact q
end
end Go.LK

namespace Go.LK
open Go Go.RowKit

theorem one_cells {v : Value} (h : v.oneCell' = true) : v.cells = [v].toArray := by cases v <;> simp_all [Value.oneCell', Value.cells]
theorem one_all {v : Value} (h : v.oneCell' = true) : [v].all Value.oneCell' = true := by simp [h]
theorem elt_one {w : World} {v : Value} {s : Nat} {els : List (List Value)} (h : Elt w v s els) : v.oneCell' = true := by
  obtain ⟨A, cap, rfl, _⟩ := h.form
  rfl

/-- A loop over a list: what has been gathered behind the first k elements. -/
def upI {σ α : Type} (f : σ → Nat → α → σ) (z : σ) (l : List α) : Nat → σ
  | 0 => z
  | k + 1 => match l[k]? with
    | some e => f (upI f z l k) k e
    | none => upI f z l k

theorem none_step {α : Type} {p : α → Bool} {l : List α} {k : Nat} {e : α} (hn : ∀ j x, j < k → l[j]? = some x → p x = false) (he : l[k]? = some e) (hp : p e = false) : ∀ j x, j < k + 1 → l[j]? = some x → p x = false := by
  intro j x hj hx
  by_cases h : j = k
  · subst h; rw [he] at hx; cases hx; exact hp
  · exact hn j x (by omega) hx

theorem not_flip {b r : Bool} (h : (!b) = r) : b = !r := by cases b <;> cases r <;> simp_all

theorem not_of_true {b : Bool} (h : b = true) : (!b) = false := by rw [h]; rfl
theorem not_of_false {b : Bool} (h : b = false) : (!b) = true := by rw [h]; rfl

theorem by_bool {p : Prop} (b : Bool) (h1 : b = true → p) (h2 : b = false → p) : p := by cases b; exact h2 rfl; exact h1 rfl

section
variable {c : Cx} {k : List It} {E : Env} {L : List Sp} {ops : Array Oper} {rest : List Oper} {ty : TypeId} {v V : Value} {x y z : Operand} {T t : TypeId} {s : Nat}
variable {α : Type} {f : α → List Value} {l : List α}

theorem J.one {els : List (List Value)} (hs : Src c L V s els) (h : V.oneCell' = true → J c k E L) : J c k E L := fun ok a w ha hst => h (elt_one (hs ok w hst)) ok a w ha hst
theorem O.one {els : List (List Value)} (hs : Src c L V s els) (h : V.oneCell' = true → O c ops rest k E L) : O c ops rest k E L := fun ok a w ha hst => h (elt_one (hs ok w hst)) ok a w ha hst
theorem W.one {els : List (List Value)} {i m : Nat} {listed : Array Bool} (hs : Src c L V s els) (h : V.oneCell' = true → W c ops i m listed k E L) : W c ops i m listed k E L := fun ok a w ha hst => h (elt_one (hs ok w hst)) ok a w ha hst
theorem D.one {els : List (List Value)} {m : Nat} {listed : Array Bool} (hs : Src c L V s els) (h : V.oneCell' = true → D c ops m listed k E L) : D c ops m listed k E L := fun ok a w ha hst => h (elt_one (hs ok w hst)) ok a w ha hst

theorem Qt.lenM {e : Nat} (hT : ∀ w, (underlying T).run c.P w = .ok (.slice e) w) (hx : ev E x = some V) (hs : Src c L V s (l.map f)) :
    Qt c E L (.call { callee := .builtin .len, args := #[x], argTypes := #[T] }) ty (.int .i64 l.length) := by
  have := Qt.lenE (ty := ty) hT hx hs
  rwa [List.length_map] at this

theorem Qt.idxM {e : Nat} {m : Int} (hT : ∀ w, (underlying T).run c.P w = .ok (.slice e) w) (hz : ∀ w, (sizeOf e).run c.P w = .ok s w) (hx : ev E x = some V) (hs : Src c L V s (l.map f)) (hy : ev E y = some (.int .i64 m)) (h0 : 0 ≤ m) (h1 : m < l.length) :
    Qt c E L (.indexAddr T x y) ty (.pointer (some ⟨vblk V, voff V + m.toNat * s, none⟩)) := Qt.idx hT hz hx hs hy h0 (by rwa [List.length_map])

theorem Cel.eltM {i : Nat} {a : α} (hs : Src c L v s (l.map f)) (hi : l[i]? = some a) : Cel c L (vblk v) (voff v + i * s) (f a) := Cel.elt hs (by rw [List.getElem?_map, hi]; rfl)

theorem Lo.appendM (i : Nat) {Y : Value} {l' : List α} {e : TypeId} {inf : TypeInfo} {zv : Value} {bytes : Nat} (hT : c.P.underlying T = some (.slice t)) (hinf : c.P.info? t = some inf) (hz : inf.zero = some zv) (hsz : inf.size = s) (hby : inf.bytes = bytes) (hzs : zv.cells.size = s) (hs0 : Nat.blt 0 s = true)
    (hx : ev E x = some V) (hi : L[i]? = some (row V t s (l.map f))) (hy : ev E y = some Y) (hs : Src c L Y s (l'.map f)) (h1 : ∀ a ∈ l', (f a).all Value.oneCell' = true)
    (h63 : l.length + l'.length ≤ 9223372036854775807) (hb : (l.length + l'.length) * bytes ≤ 140737488355328) :
    Lo c E L (.call { callee := .builtin .append, args := #[x, y], argTypes := #[T, T] }) e fun v L' => L' = L.set i (row v t s ((l ++ l').map f)) := by
  have := Lo.append (c := c) (E := E) (L := L) (e := e) i hT hinf hz hsz hby hzs (Nat.le_of_ble_eq_true hs0) hx hi hy hs (by simpa using h1) (by simpa [maxLen] using h63) (by simpa using hb)
  simpa using this

theorem Lo.storeM (i : Nat) {g p j off sz : Nat} {a : α} {e vs : List Value} {u : Value} (a' : α) (hx : ev E x = some (.pointer (some ⟨g, p, none⟩))) (hy : ev E y = some u) (hi : L[i]? = some (row V t s (l.map f))) (hg : g = vblk V) (hp : p = voff V + j * s + off)
    (hj : l[j]? = some a) (he : f a = e) (hs : ∀ w, (sizeOf T).run c.P w = .ok sz w)
    (hc : u.cells = vs.toArray) (hl : vs.length = sz) (h1 : (vs.all Value.oneCell') = true) (hcs : e.take off ++ vs ++ e.drop (off + vs.length) = f a') (hfit : Nat.ble (off + sz) s = true) :
    Lo c E L (.store T x y) ty fun _ L' => L' = L.set i (row V t s ((l.set j a').map f)) := by
  have := Lo.storeE (c := c) (E := E) (L := L) (ty := ty) (j := j) (e := e) i (f a') hx hy hi hg hp (by rw [List.getElem?_map, hj, ← he]; rfl) hs hc hl h1 hcs (Nat.le_of_ble_eq_true hfit)
  simpa [List.map_set] using this

theorem Lo.buildM {n : Nat} {parts : List (Nat × Operand)} (f : α → List Value) (l : List α) (vs : List (Nat × Value)) {zv : Value} (hT : ∀ w, (underlying T).run c.P w = .ok (.slice t) w) (hs : ∀ w, (sizeOf t).run c.P w = .ok s w) (hz : ∀ w, (zeroValue t).run c.P w = .ok zv w)
    (hp : parts.map (fun p => (p.1, ev E p.2)) = vs.map (fun p => (p.1, some p.2))) (hn : Nat.ble (n * s) 16777216 = true) (hn0 : Nat.blt 0 (n * s) = true)
    (hf : Instr.fill (fun i => some (i * s, s)) ((Array.range (n * s)).map (zv.cells[· % zv.cells.size]!)) vs = some (l.map f).flatten.toArray) (hl : (l.map f).length = n) (hle : ((l.map f).all (fun e => e.length == s)) = true) :
    Lo c E L (.buildSlice T n parts.toArray) ty fun v L' => L' = row v t s (l.map f) :: L := Lo.buildSlice vs (l.map f) hT hs hz hp hn hn0 hf hl hle

theorem Fin.ret {w : World} {M : List Nat} {post : Value → List Sp → Prop} {P : Program} {fn : Func} {n : Nat} {Ro : List Sp} {rs : List ResultVar} (hr : fn.results = rs.toArray) (vs : List Value) (hv : RVs ⟨P, fn, n, w, M, Ro, endPost w M post⟩ E L rs vs) (is : List Nat) (hn : is.Nodup) (L' : List Sp) (hL : LK.sel L is = L') (h : post (vOf vs) L') :
    Fin ⟨P, fn, n, w, M, Ro, endPost w M post⟩ E L := Fin.mk hr vs hv is hn L' hL fun _ hs => ⟨_, _, rfl, h, hs⟩
end
end Go.LK

namespace Go.LK
open Go Go.RowKit

def intVals (as : List Int) : List Value := as.map (.int .i64)

def FInt (P : Program) : Nat → List Field → Prop
  | _, [] => True
  | i, f :: fs => f.offset = i ∧ (f.name == "_") = false ∧ P.underlying f.type = some (.int .i64) ∧ FInt P (i + 1) fs

theorem run_eqFields {P : Program} {w : World} {d : Nat} (as bs : List Int) : ∀ (fs : List Field) (i : Nat), FInt P i fs → i + fs.length = as.length → i + fs.length = bs.length →
    (Op.eqFields (d + 1) (intVals as).toArray (intVals bs).toArray fs).run P w = .ok (decide (as.drop i = bs.drop i)) w
  | [], i, _, ha, hb => by
    have h1 : as.drop i = [] := List.drop_eq_nil_of_le (by simp at ha; omega)
    have h2 : bs.drop i = [] := List.drop_eq_nil_of_le (by simp at hb; omega)
    simp [Op.eqFields, h1, h2]
  | f :: fs, i, hf, ha, hb => by
    obtain ⟨ho, hn, hu, hr⟩ := hf
    have ih := run_eqFields (P := P) (w := w) (d := d) as bs fs (i + 1) hr (by simp at ha; omega) (by simp at hb; omega)
    have hla : i < as.length := by simp at ha; omega
    have hlb : i < bs.length := by simp at hb; omega
    have hn' : ¬ f.name = "_" := by simpa using hn
    have hag : ∀ w, (isAgg f.type).run P w = .ok false w := fun w => by simp [isAgg, run_underlying hu]
    have pa : ∀ (cs : List Int) (h : i < cs.length), (part f.type (intVals cs).toArray f.offset).run P w = .ok (.int .i64 cs[i]) w := fun cs h => by
      simp [part, hag, ho, intVals, h]
    simp only [Op.eqFields, if_pos hn', Sem.run_bind, pa as hla, pa bs hlb, Result.andThen_ok, run_equalIn_int w d f.type .i64 .i64 _ _ hu, Sem.run_ite]
    have key : (as.drop i = bs.drop i) ↔ (as[i] = bs[i] ∧ as.drop (i + 1) = bs.drop (i + 1)) := by
      rw [List.drop_eq_getElem_cons hla, List.drop_eq_getElem_cons hlb, List.cons.injEq]
    by_cases he : as[i] = bs[i]
    · have : decide (as.drop i = bs.drop i) = decide (as.drop (i + 1) = bs.drop (i + 1)) := decide_eq_decide.2 (key.trans ⟨fun h => h.2, fun h => ⟨he, h⟩⟩)
      rw [this]
      simp [he, ih]
    · have : decide (as.drop i = bs.drop i) = false := decide_eq_false fun h => he (key.1 h).1
      rw [this]
      simp [he]

section
variable {c : Cx} {E : Env} {L : List Sp} {ty : TypeId} {x y : Operand} {T : TypeId}
theorem run_eqI {P : Program} {fs : Array Field} (as bs : List Int) (hT : P.underlying T = some (.struct fs)) (hp : P.stoodInHeld T = false) (hf : FInt P 0 fs.toList) (ha : as.length = fs.size) (hb : bs.length = fs.size) (w : World) :
    (Op.equalIn 10000 T (.agg (intVals as).toArray) (.agg (intVals bs).toArray)).run P w = .ok (decide (as = bs)) w := by
  have h1 : P.fieldsOf T = fs := by simp [Program.fieldsOf, hT]
  rw [run_equalIn_struct w 9999 T _ _ (by rw [h1]; exact hT) hp, h1]
  have := run_eqFields (P := P) (w := w) (d := 9998) as bs fs.toList 0 hf (by simp [ha]) (by simp [hb])
  simpa using this

theorem Pu.neqI {fs : Array Field} (as bs : List Int) (hT : c.P.underlying T = some (.struct fs)) (hp : c.P.stoodInHeld T = false) (hg : c.P.eqGuardType c.P.depth T = false) (hf : FInt c.P 0 fs.toList) (ha : as.length = fs.size) (hb : bs.length = fs.size)
    (hx : ev E x = some (.agg (intVals as).toArray)) (hy : ev E y = some (.agg (intVals bs).toArray)) : Pu c E (.binOp .neq T x y T) ty (.bool (!decide (as = bs))) := fun a w h _ _ _ _ => by
  simp only [execOp, h.ev hx, h.ev hy, Sem.run_bind, run_eqGuard_agg w .neq T x y _ _ hg, Result.andThen_ok, run_neq_struct, run_eqI as bs hT hp hf ha hb w, Sem.run_pure]

theorem Pu.beql {p q : Bool} (hT : c.P.underlying T = some .bool) (hx : ev E x = some (.bool p)) (hy : ev E y = some (.bool q)) : Pu c E (.binOp .eql T x y T) ty (.bool (p == q)) := fun a w h _ _ _ _ => by
  have h1 := run_equalIn_bool (P := c.P) w 9999 T p q hT
  simp [execOp, h.ev hx, h.ev hy, eqGuard, binOp, Op.equal, Op.maxDepth, h1]
end
end Go.LK

namespace Go.LK
open Go Go.RowKit

/-- What operation o comes to, in every world of the class: a value (the world stays in the class), or nothing, being guarded. -/
def Out (c : Cx) (E : Env) (L : List Sp) (ops : Array Oper) (o : Oper) (v : Value) : Prop :=
  c.Ok → ∀ a w, Has c.n a E → St c.w0 c.M L w →
    (Region.wanted o (yielded ops a.tmps) = true ∧ ((execOp a.eval o).run c.P w = .ok (.value v) w ∨
      ∃ f args, (execOp a.eval o).run c.P w = .ok (.enter f args) w ∧ Calls c.P f args w fun e w' => e = .returned v ∧ Frame w [] w')) ∨
    (Region.wanted o (yielded ops a.tmps) = false ∧ v = undef)

/-- A new variable. -/
structure Al (c : Cx) (cs : List Value) (ty : TypeId) (o : Oper) : Prop where
  op : o.op = .alloc ty
  guard : o.guard = none
  run : ∀ (ev : Operand → Value) w, (execOp ev o).run c.P w = .ok (.value (.pointer (some ⟨w.heap.size, 0, none⟩))) (w.alloc (.cells cs.toArray ty))

def notAlloc (o : Oper) : Bool := match o.op with | .alloc _ => false | _ => true
/-- The heads, one behind the other; one of them may come to a new variable. -/
def Hd (c : Cx) (ops : Array Oper) (T : Env → Prop) (L : List Sp) : List Oper → Env → Prop
  | [], E => T E
  | o :: rest, E => ∃ d v, o.dst = some d ∧ Nat.blt d c.n = true ∧ (Out c E L ops o v ∨ notAlloc o = false) ∧ Hd c ops T L rest ((d, v) :: E)

def waits (ops : Array Oper) (i j : Nat) : Bool :=
  match ops[i]? with
  | some o => o.after.any fun e => Region.binds .any e && e.on == j
  | none => false

/-- Each head writes a slot of its own; what it looks at, and another head writes, it waits for; edges lead back; whoever is the tail's first waits, by a chain, for every head; the tail is a chain. -/
def headB (ops : Array Oper) (n m : Nat) : Bool :=
  (ops.all fun o => match o.op with | .select .. => false | _ => true) && Nat.ble n ops.size &&
  (List.range n).all (fun i => match (ops[i]?) with
    | none => false
    | some o => o.after.all (fun e => !Region.binds .any e || Nat.blt e.on i) &&
      match o.dst with
      | none => false
      | some d => (List.range n).all (fun j => j == i || (match ops[j]? with | none => false | some p => p.dst != some d)) &&
        !(o.looksAt ops).contains d &&
        (o.looksAt ops).all fun t => (List.range n).all fun j => (match ops[j]? with | none => false | some p => p.dst != some t) || waits ops i j) &&
  (List.range n).all (fun i => n == ops.size || (List.range (n + 1)).any fun j => Nat.blt i j && waits ops j i) &&
  (List.range ops.size).all (fun t => Nat.ble t n || waits ops t (t - 1)) &&
  (List.range n).all (fun i => !waits ops i m && (i == m || match ops[i]? with | none => false | some o => notAlloc o)) &&
  Region.seqB .any ops (ops.size - n) n ((List.range ops.size).map (fun i => Nat.blt i n)).toArray

def pre : List (Nat × Value) → Env → Env
  | [], E => E
  | p :: ps, E => pre ps (p :: E)
def putAll : List (Nat × Value) → Act → Act
  | [], a => a
  | p :: ps, a => putAll ps (a.put (some p.1) p.2)

theorem putAll_has {n : Nat} : ∀ {ps : List (Nat × Value)} {a : Act} {E : Env}, (∀ p ∈ ps, Nat.blt p.1 n = true) → Has n a E → Has n (putAll ps a) (pre ps E)
  | [], _, _, _, h => h
  | p :: ps, _, _, hb, h => putAll_has (ps := ps) (fun q hq => hb q (by simp [hq])) (h.put p.2 (hb p (by simp)))

theorem put_slot (a : Act) (d t : Nat) (v : Value) (hd : d < a.tmps.size) : (a.put (some d) v).tmps.getD t undef = if d = t then v else a.tmps.getD t undef := by
  simp only [Act.put]
  by_cases e : d = t
  · subst e; simp [Array.getD_eq_getD_getElem?, hd]
  · rw [if_neg e, Array.getD_eq_getD_getElem?, Array.getD_eq_getD_getElem?, Array.getElem?_setIfInBounds_ne e]

theorem put_size (a : Act) (d : Nat) (v : Value) : (a.put (some d) v).tmps.size = a.tmps.size := by simp [Act.put]
theorem putAll_size : ∀ (ps : List (Nat × Value)) (a : Act), (putAll ps a).tmps.size = a.tmps.size
  | [], _ => rfl
  | p :: ps, a => by simp only [putAll, putAll_size ps, put_size]

theorem putAll_other : ∀ (ps : List (Nat × Value)) (a : Act) (t : Nat), (∀ p ∈ ps, p.1 < a.tmps.size) → (∀ p ∈ ps, p.1 ≠ t) → (putAll ps a).tmps.getD t undef = a.tmps.getD t undef
  | [], _, _, _, _ => rfl
  | p :: ps, a, t, hb, hn => by
    simp only [putAll]
    rw [putAll_other ps _ t (fun q hq => by rw [put_size]; exact hb q (by simp [hq])) (fun q hq => hn q (by simp [hq])), put_slot _ _ _ _ (hb p (by simp)), if_neg (hn p (by simp))]

theorem putAll_at : ∀ (ps : List (Nat × Value)) (a : Act) (j : Nat) (p : Nat × Value), (∀ p ∈ ps, p.1 < a.tmps.size) → (∀ i q, ps[i]? = some q → i ≠ j → q.1 ≠ p.1) → ps[j]? = some p → (putAll ps a).tmps.getD p.1 undef = p.2
  | [], _, _, _, _, _, h => by simp at h
  | q :: ps, a, 0, p, hb, hn, h => by
    simp at h; subst h
    simp only [putAll]
    rw [putAll_other ps _ _ (fun r hr => by rw [put_size]; exact hb r (by simp [hr])), put_slot _ _ _ _ (hb q (by simp)), if_pos rfl]
    intro r hr
    obtain ⟨i, hi⟩ := List.mem_iff_getElem?.1 hr
    exact hn (i + 1) r (by simpa using hi) (by omega)
  | q :: ps, a, j + 1, p, hb, hn, h => by
    simp only [putAll]
    exact putAll_at ps _ j p (fun r hr => by rw [put_size]; exact hb r (by simp [hr])) (fun i r hi hne => hn (i + 1) r (by simpa using hi) (by omega)) (by simpa using h)

theorem hd_unfold {c : Cx} {ops : Array Oper} {T : Env → Prop} {L : List Sp} : ∀ {rest : List Oper} {E : Env}, Hd c ops T L rest E → ∃ ps : List (Nat × Value), ps.length = rest.length ∧ T (pre ps E) ∧
    ∀ i p o, ps[i]? = some p → rest[i]? = some o → o.dst = some p.1 ∧ Nat.blt p.1 c.n = true ∧ (Out c (pre (ps.take i) E) L ops o p.2 ∨ notAlloc o = false)
  | [], E, h => ⟨[], rfl, h, fun i p o hi => by simp at hi⟩
  | o :: rest, E, h => by
    obtain ⟨d, v, hd, hb, ho, hr⟩ := h
    obtain ⟨ps, hl, hT, hps⟩ := hd_unfold hr
    refine ⟨(d, v) :: ps, by simp [hl], hT, fun i p o' hi ho' => ?_⟩
    cases i with
    | zero => simp at hi ho'; subst hi; subst ho'; exact ⟨hd, hb, ho⟩
    | succ i =>
      simp only [List.getElem?_cons_succ] at hi ho'
      have := hps i p o' hi ho'
      simpa [pre] using this

theorem nodup_erase : ∀ (l : List Nat), l.Nodup → ∀ i, l.erase i = l.filter (fun j => j != i)
  | [], _, _ => rfl
  | a :: l, h, i => by
    rw [List.nodup_cons] at h
    by_cases e : a = i
    · subst e
      have h2 : l.filter (fun j => j != a) = l := List.filter_eq_self.2 fun j hj => by
        have : j ≠ a := fun e => h.1 (e ▸ hj)
        simpa using this
      simp [h2]
    · have h3 : (a == i) = false := by simpa using e
      rw [List.erase_cons, h3, List.filter_cons]
      simp [e, nodup_erase l h.2 i]

theorem count_set {l : List Nat} (hnd : l.Nodup) {p p' : Nat → Bool} {i : Nat} (hi : i ∈ l) (hp : p i = true) (h : ∀ j ∈ l, p' j = (p j && j != i)) : (l.filter p').length + 1 = (l.filter p).length := by
  have e : l.filter p' = (l.filter p).erase i := by
    rw [nodup_erase _ (hnd.filter p) i, List.filter_filter]
    exact List.filter_congr fun j hj => by rw [h j hj, Bool.and_comm]
  have hm : i ∈ l.filter p := List.mem_filter.2 ⟨hi, hp⟩
  rw [e, List.length_erase_of_mem hm]
  have := List.length_pos_of_mem hm
  omega

structure Edges (ops : Array Oper) (n m : Nat) : Prop where
  nosel : ∀ (j : Nat) (o : Oper) cs b, ops[j]? = some o → o.op ≠ .select cs b
  le : n ≤ ops.size
  back : ∀ i, i < n → ∀ j, waits ops i j = true → j < i
  head : ∀ i, i < n → ∃ o d, ops[i]? = some o ∧ o.dst = some d ∧ (∀ j p, j < n → j ≠ i → ops[j]? = some p → p.dst ≠ some d) ∧ d ∉ o.looksAt ops ∧
    ∀ t ∈ o.looksAt ops, ∀ j p, j < n → ops[j]? = some p → p.dst = some t → waits ops i j = true
  sink : n < ops.size → ∀ i, i < n → ∃ j, i < j ∧ j ≤ n ∧ waits ops j i = true
  chain : ∀ t, n < t → t < ops.size → waits ops t (t - 1) = true
  still : ∀ i, i < n → waits ops i m = false
  alloc : ∀ i o, i < n → i ≠ m → ops[i]? = some o → notAlloc o = true
  seq : Region.seqB .any ops (ops.size - n) n ((List.range ops.size).map (fun i => Nat.blt i n)).toArray = true

theorem edges_of {ops : Array Oper} {n m : Nat} (h : headB ops n m = true) : Edges ops n m := by
  simp only [headB, Bool.and_eq_true] at h
  obtain ⟨⟨⟨⟨⟨⟨h1, h2⟩, h4⟩, h5⟩, h6⟩, hal⟩, h7⟩ := h
  have hle : n ≤ ops.size := Nat.le_of_ble_eq_true h2
  have hh : ∀ i, i < n → ∃ o d, ops[i]? = some o ∧ o.dst = some d ∧ (o.after.all (fun e => !Region.binds .any e || Nat.blt e.on i)) = true ∧ (∀ j p, j < n → j ≠ i → ops[j]? = some p → p.dst ≠ some d) ∧ d ∉ o.looksAt ops ∧
      ∀ t ∈ o.looksAt ops, ∀ j p, j < n → ops[j]? = some p → p.dst = some t → waits ops i j = true := fun i hi => by
    have h8 := List.all_eq_true.1 h4 i (List.mem_range.2 hi)
    cases ho : ops[i]? with
    | none => rw [ho] at h8; simp at h8
    | some o =>
      rw [ho] at h8
      simp only [Bool.and_eq_true] at h8
      obtain ⟨h9, h10⟩ := h8
      cases hd : o.dst with
      | none => rw [hd] at h10; simp at h10
      | some d =>
        rw [hd] at h10
        simp only [Bool.and_eq_true] at h10
        obtain ⟨⟨h11, h12⟩, h13⟩ := h10
        refine ⟨o, d, rfl, hd, h9, fun j p hj hne hp => ?_, by simpa using h12, fun t ht j p hj hp hpt => ?_⟩
        · have := List.all_eq_true.1 h11 j (List.mem_range.2 hj)
          rw [hp] at this
          simpa [hne] using this
        · have := List.all_eq_true.1 (List.all_eq_true.1 h13 t ht) j (List.mem_range.2 hj)
          rw [hp] at this
          simpa [hpt] using this
  refine ⟨fun j o cs b ho heq => by
    have h2 := Array.all_eq_true_iff_forall_mem.1 h1 o (Array.mem_of_getElem? ho)
    simp [heq] at h2, hle, fun i hi j hw => ?_, fun i hi => ?_, fun hn i hi => ?_, fun t ht hts => ?_, fun i hi => ?_, fun i o hi hne ho => ?_, h7⟩
  · obtain ⟨o, d, ho, _, h9, _⟩ := hh i hi
    unfold waits at hw
    rw [ho] at hw
    obtain ⟨e, he, hb⟩ := Array.any_eq_true'.1 hw
    simp only [Bool.and_eq_true, beq_iff_eq] at hb
    have := Array.all_eq_true_iff_forall_mem.1 h9 e he
    rw [hb.1] at this
    have h10 : e.on < i := by simpa using this
    omega
  · obtain ⟨o, d, h8, h9, _, h10⟩ := hh i hi
    exact ⟨o, d, h8, h9, h10⟩
  · have h8 := List.all_eq_true.1 h5 i (List.mem_range.2 hi)
    have hne : (n == ops.size) = false := by simpa using Nat.ne_of_lt hn
    rw [hne, Bool.false_or] at h8
    obtain ⟨j, hj, h9⟩ := List.any_eq_true.1 h8
    simp only [Bool.and_eq_true] at h9
    have h10 : i + 1 ≤ j := Nat.le_of_ble_eq_true h9.1
    exact ⟨j, h10, by have := List.mem_range.1 hj; omega, h9.2⟩
  · have h8 := List.all_eq_true.1 h6 t (List.mem_range.2 hts)
    have hne : Nat.ble t n = false := by
      cases hb : Nat.ble t n
      · rfl
      · have := Nat.le_of_ble_eq_true hb; omega
    rw [hne] at h8
    simpa using h8
  · have h8 := List.all_eq_true.1 hal i (List.mem_range.2 hi)
    simp only [Bool.and_eq_true, Bool.not_eq_true'] at h8
    exact h8.1
  · have h8 := List.all_eq_true.1 hal i (List.mem_range.2 hi)
    rw [ho] at h8
    simp only [Bool.and_eq_true] at h8
    simpa [hne] using h8.2

theorem ready_waits {ops : Array Oper} {listed : Array Bool} {i j : Nat} (hr : i ∈ Region.ready .any ops listed) (hw : waits ops i j = true) : listed.getD j false = true := by
  obtain ⟨_, o, ho, hall⟩ := mem_ready.1 hr
  unfold waits at hw
  rw [ho] at hw
  obtain ⟨e, he, hb⟩ := Array.any_eq_true'.1 hw
  simp only [Bool.and_eq_true, beq_iff_eq] at hb
  rw [← hb.2]
  exact hall e he hb.1

theorem waits_ready {ops : Array Oper} {listed : Array Bool} {i : Nat} {o : Oper} (ho : ops[i]? = some o) (hu : listed.getD i true = false) (h : ∀ j, waits ops i j = true → listed.getD j false = true) : i ∈ Region.ready .any ops listed :=
  mem_ready.2 ⟨hu, o, ho, fun e he hb => h e.on (by
    unfold waits; rw [ho]
    exact Array.any_eq_true'.2 ⟨e, he, by simp [hb]⟩)⟩

/-- What holds whenever the heads that are listed have come up. -/
structure HInv (c : Cx) (cs : List Value) (ty : TypeId) (L : List Sp) (ops : Array Oper) (n m dm : Nat) (ps : List (Nat × Value)) (a0 : Act) (listed : Array Bool) (a : Act) (w : World) : Prop where
  st : St c.w0 c.M L w
  size : listed.size = ops.size
  only : ∀ t, n ≤ t → listed.getD t false = false
  closed : ∀ i j, listed.getD i false = true → waits ops i j = true → listed.getD j false = true
  tsize : a.tmps.size = a0.tmps.size
  defers : a.defers = a0.defers
  new : m < n → listed.getD m false = true → ∃ g, a.tmps.getD dm undef = .pointer (some ⟨g, 0, none⟩) ∧ St c.w0 c.M (var g cs ty :: L) w
  at1 : ∀ i p, i ≠ m → ps[i]? = some p → listed.getD i false = true → a.tmps.getD p.1 undef = p.2
  at2 : ∀ t, (∀ i p, ps[i]? = some p → listed.getD i false = true → p.1 ≠ t) → a.tmps.getD t undef = a0.tmps.getD t undef

theorem getD_tf {listed : Array Bool} {i : Nat} (hi : i < listed.size) : listed.getD i true = listed.getD i false := by
  rw [Array.getD_eq_getD_getElem?, Array.getD_eq_getD_getElem?, Array.getElem?_eq_getElem hi]; rfl
theorem getD_set_eq {listed : Array Bool} {i : Nat} (hi : i < listed.size) : (listed.setIfInBounds i true).getD i false = true := by
  rw [Array.getD_eq_getD_getElem?]; simp [hi]

theorem hd_sound {c : Cx} {ok : c.Ok} {cs : List Value} {ty : TypeId} {k : List It} {E : Env} {L : List Sp} {l : List Oper} {n m dm : Nat} (hB : headB l.toArray n m = true) (hm : m < n → (l.toArray[m]?).bind (·.dst) = some dm) {T : Env → Prop} (hAl : m < n → ∀ o, l.toArray[m]? = some o → Al c cs ty o) (hT : ∀ E', T E' → (n ≤ m → O c l.toArray (l.drop n) k E' L) ∧ (m < n → ∀ g, O c l.toArray (l.drop n) k ((dm, .pointer (some ⟨g, 0, none⟩)) :: E') (var g cs ty :: L))) (h : Hd c l.toArray T L (l.take n) E) {a0 : Act} {w0 : World} (ha0 : Has c.n a0 E) (hs0 : St c.w0 c.M L w0) :
    wpAny c.P .any l.toArray (c.Q k) l.toArray.size (Array.replicate l.toArray.size false) a0 w0 := by
  have G := edges_of hB
  obtain ⟨ps, hlen, hTE, hps⟩ := hd_unfold h
  have hn : n ≤ l.length := by simpa using G.le
  have hpl : ps.length = n := by rw [hlen, List.length_take]; omega
  have hop : ∀ i, i < n → ∃ o p, l.toArray[i]? = some o ∧ ps[i]? = some p ∧ o.dst = some p.1 ∧ Nat.blt p.1 c.n = true ∧ (Out c (pre (ps.take i) E) L l.toArray o p.2 ∨ notAlloc o = false) := fun i hi => by
    obtain ⟨o, d, ho, _⟩ := G.head i hi
    have hp : ps[i]? = some ps[i] := List.getElem?_eq_getElem (by omega)
    have ho' : (l.take n)[i]? = some o := by rw [List.getElem?_take, if_pos hi]; simpa using ho
    exact ⟨o, ps[i], ho, hp, hps i _ o hp ho'⟩
  have hblt : ∀ p ∈ ps, Nat.blt p.1 c.n = true := fun p hp => by
    obtain ⟨i, hi⟩ := List.mem_iff_getElem?.1 hp
    obtain ⟨o, q, _, hq, _, hb, _⟩ := hop i (by have := (List.getElem?_eq_some_iff.1 hi).1; omega)
    rw [hi] at hq; cases hq; exact hb
  have hsz : ∀ p ∈ ps, p.1 < a0.tmps.size := fun p hp => by rw [ha0.size]; exact Nat.le_of_ble_eq_true (hblt p hp)
  have hdist : ∀ (i j : Nat) (p q : Nat × Value), ps[i]? = some p → ps[j]? = some q → i ≠ j → p.1 ≠ q.1 := fun i j p q hi hj hne he => by
    have hin : i < n := by have := (List.getElem?_eq_some_iff.1 hi).1; omega
    have hjn : j < n := by have := (List.getElem?_eq_some_iff.1 hj).1; omega
    obtain ⟨o, p', ho, hp', hd, _⟩ := hop i hin
    obtain ⟨o', q', ho', hq', hd', _⟩ := hop j hjn
    rw [hi] at hp'; cases hp'; rw [hj] at hq'; cases hq'
    obtain ⟨o2, d2, ho2, hd2, hne2, _⟩ := G.head i hin
    rw [ho] at ho2; cases ho2; rw [hd] at hd2; cases hd2
    exact hne2 j o' hjn (Ne.symm hne) ho' (by rw [hd', he])
  -- a head that is ready comes to its value, and the invariant goes on
  have step : ∀ i, i < n → ∀ listed a w, HInv c cs ty L l.toArray n m dm ps a0 listed a w → i ∈ Region.ready .any l.toArray listed → ∀ K : Act → World → Prop,
      (∀ a' w', HInv c cs ty L l.toArray n m dm ps a0 (listed.setIfInBounds i true) a' w' → K a' w') → wpOp c.P l.toArray (c.Q k) i K a w := by
    intro i hi listed a w I hr K hK
    obtain ⟨o, p, ho, hp, hd, hb, hout⟩ := hop i hi
    obtain ⟨o2, d2, ho2, hd2, hne2, hself, hlooks⟩ := G.head i hi
    rw [ho] at ho2; cases ho2; rw [hd] at hd2; cases hd2
    have hil : i < listed.size := by rw [I.size]; have := G.le; omega
    have hpa : p.1 < a.tmps.size := by rw [I.tsize]; exact hsz p (List.mem_of_getElem? hp)
    have hset : ∀ j, (listed.setIfInBounds i true).getD j false = true ↔ (j = i ∨ listed.getD j false = true) := fun j => by
      by_cases e : j = i
      · subst e; simp [getD_set_eq hil]
      · rw [getD_set_ne false (Ne.symm e)]; simp [e]
    have hnew : ∀ v w', St c.w0 c.M L w' → (i ≠ m → v = p.2) → (m < n → (listed.setIfInBounds i true).getD m false = true → ∃ g, (a.put o.dst v).tmps.getD dm undef = .pointer (some ⟨g, 0, none⟩) ∧ St c.w0 c.M (var g cs ty :: L) w') → K (a.put o.dst v) w' := fun v w' hs' hv hn2 => hK _ _ (by
      rw [hd] at hn2 ⊢
      refine ⟨hs', by simpa using I.size, fun t ht => ?_, fun j j' hj hw => ?_, by rw [put_size]; exact I.tsize, I.defers, hn2, fun j q hjm hj hq => ?_, fun t ht => ?_⟩
      · rw [getD_set_ne false (by omega)]; exact I.only t ht
      · rw [hset] at hj ⊢
        rcases hj with rfl | hj
        · exact .inr (ready_waits hr hw)
        · exact .inr (I.closed j j' hj hw)
      · rw [put_slot _ _ _ _ hpa]
        by_cases e : j = i
        · subst e; rw [hp] at hj; cases hj; rw [if_pos rfl]; exact hv hjm
        · rw [if_neg (hdist i j p q hp hj (Ne.symm e))]
          exact I.at1 j q hjm hj (((hset j).1 hq).resolve_left e)
      · rw [put_slot _ _ _ _ hpa, if_neg (ht i p hp ((hset i).2 (.inl rfl)))]
        exact I.at2 t (fun j q hj hq => ht j q hj ((hset j).2 (.inr hq))))
    by_cases him : i = m
    · subst him
      have hal := hAl hi o ho
      have hdm : p.1 = dm := by have := hm hi; rw [ho] at this; simpa [hd] using this
      unfold wpOp
      simp only [ho]
      rw [if_pos (by simp [Region.wanted, hal.guard])]
      refine .inl ?_
      unfold Oper.wp
      rw [hal.run]
      refine hnew _ _ (I.st.quiet (frame_alloc w _)) (fun h => absurd rfl h) fun _ _ => ⟨_, ?_, I.st.alloc _⟩
      rw [hd, put_slot _ _ _ _ hpa, if_pos hdm]
    have hout := hout.resolve_right (by rw [G.alloc i o hi him ho]; simp)
    have hlex := putAll_has (ps := ps.take i) (fun q hq => hblt q (List.mem_of_mem_take hq)) ha0
    have hslot : ∀ t ∈ o.looksAt l.toArray, a.tmps.getD t undef = (putAll (ps.take i) a0).tmps.getD t undef := fun t ht => by
      by_cases hex : ∃ (j : Nat) (q : Nat × Value), ps[j]? = some q ∧ q.1 = t
      · obtain ⟨j, q, hj, rfl⟩ := hex
        have hjn : j < n := by have := (List.getElem?_eq_some_iff.1 hj).1; omega
        obtain ⟨oj, q', hoj, hq', hdj, _⟩ := hop j hjn
        rw [hj] at hq'; cases hq'
        have hw := hlooks q.1 ht j oj hjn hoj hdj
        have hji := G.back i hi j hw
        rw [I.at1 j q (fun e => by rw [e, G.still i hi] at hw; cases hw) hj (ready_waits hr hw), putAll_at (ps.take i) a0 j q (fun r hr => hsz r (List.mem_of_mem_take hr)) (fun m r hm hne => by
          rw [List.getElem?_take] at hm
          split at hm
          · exact hdist m j r q hm hj hne
          · cases hm) (by rw [List.getElem?_take, if_pos hji]; exact hj)]
      · have hno : ∀ (j : Nat) (q : Nat × Value), ps[j]? = some q → q.1 ≠ t := fun j q hj he => hex ⟨j, q, hj, he⟩
        rw [I.at2 t (fun j q hj _ => hno j q hj), putAll_other (ps.take i) a0 t (fun r hr => hsz r (List.mem_of_mem_take hr)) (fun r hr => by
          obtain ⟨m, hm⟩ := List.mem_iff_getElem?.1 (List.mem_of_mem_take hr)
          exact hno m r hm)]
    have hasz : a.tmps.size = (putAll (ps.take i) a0).tmps.size := by rw [putAll_size, I.tsize]
    have hget : ∀ t ∈ o.looksAt l.toArray, a.tmps[t]? = (putAll (ps.take i) a0).tmps[t]? := fun t ht => by
      have h1 := hslot t ht
      rw [Array.getD_eq_getD_getElem?, Array.getD_eq_getD_getElem?] at h1
      by_cases hlt : t < a.tmps.size
      · have hlt' : t < (putAll (ps.take i) a0).tmps.size := hasz ▸ hlt
        rw [Array.getElem?_eq_getElem hlt, Array.getElem?_eq_getElem hlt'] at h1 ⊢
        exact congrArg some h1
      · rw [Array.getElem?_eq_none (Nat.le_of_not_lt hlt), Array.getElem?_eq_none (hasz ▸ Nat.le_of_not_lt hlt)]
    have hexec : execOp a.eval o = execOp (putAll (ps.take i) a0).eval o := execOp_congr o (fun cs b => G.nosel i o cs b ho) (fun x hx => by
      cases x with
      | tmp t => exact hslot t (List.mem_append_left _ (List.mem_filterMap.2 ⟨.tmp t, by simpa using hx, rfl⟩))
      | _ => rfl)
    have hwant : Region.wanted o (yielded l.toArray a.tmps) = Region.wanted o (yielded l.toArray (putAll (ps.take i) a0).tmps) := by
      unfold Region.wanted
      cases hg : o.guard with
      | none => rfl
      | some gw =>
        obtain ⟨g, want⟩ := gw
        have : yielded l.toArray a.tmps g = yielded l.toArray (putAll (ps.take i) a0).tmps g := by
          unfold yielded
          cases ht : (l.toArray[g]?).bind (·.dst) with
          | none => rfl
          | some t =>
            simp only [Option.bind_some]
            rw [hget t (by
              unfold Oper.looksAt
              rw [hg]
              exact List.mem_append_right _ (by simp only [ht]; simp))]
        simp only [this]
    have hnext : ∀ w', Frame w [] w' → K (a.put o.dst p.2) w' := fun w' hf => hnew _ _ (I.st.quiet hf) (fun _ => rfl) fun hmn hml => by
      obtain ⟨g, h1, h2⟩ := I.new hmn (((hset m).1 hml).resolve_left (Ne.symm him))
      obtain ⟨om, pm, hom, hpm, hdm, _⟩ := hop m hmn
      have hdm' : pm.1 = dm := by have := hm hmn; rw [hom] at this; simpa [hdm] using this
      refine ⟨g, ?_, h2.quiet hf⟩
      rw [hd, put_slot _ _ _ _ hpa, if_neg (fun e => hdist i m p pm hp hpm him (by rw [e, hdm'])), h1]
    unfold wpOp
    simp only [ho]
    rcases hout ok _ w hlex I.st with ⟨hw1, hrun⟩ | ⟨hw1, hv⟩
    · rw [if_pos (by rw [hwant]; exact hw1)]
      refine .inl ?_
      unfold Oper.wp
      rw [hexec]
      rcases hrun with hrun | ⟨f, args, hrun, hcall⟩
      · rw [hrun]; exact hnext w (Frame.refl w _)
      · rw [hrun]
        refine Calls.mono hcall ?_
        rintro e w' ⟨rfl, hs'⟩
        exact hnext w' hs'
    · rw [if_neg (by rw [hwant, hw1]; simp), ← hv]
      exact hnext w (Frame.refl w _)
  -- by the number of heads that are still to come
  have main : ∀ h listed a w, HInv c cs ty L l.toArray n m dm ps a0 listed a w → ((List.range n).filter fun i => !listed.getD i false).length = h → wpAny c.P .any l.toArray (c.Q k) (l.toArray.size - n + h) listed a w := by
    intro h
    induction h with
    | zero =>
      intro listed a w I hh
      have hall : ∀ i, i < n → listed.getD i false = true := fun i hi => by
        have h1 : (List.range n).filter (fun i => !listed.getD i false) = [] := List.eq_nil_of_length_eq_zero hh
        have h2 := List.filter_eq_nil_iff.1 h1 i (List.mem_range.2 hi)
        simpa using h2
      have hlist : listed = ((List.range l.toArray.size).map (fun i => Nat.blt i n)).toArray := by
        apply Array.ext
        · simp [I.size]
        · intro i h1 h2
          have h3 : listed.getD i false = listed[i] := by rw [Array.getD_eq_getD_getElem?, Array.getElem?_eq_getElem h1]; rfl
          rw [← h3]
          simp only [List.getElem_toArray, List.getElem_map, List.getElem_range]
          rcases Nat.lt_or_ge i n with hlt | hge
          · rw [hall i hlt]; exact (Nat.ble_eq_true_of_le hlt).symm
          · rw [I.only i hge]
            cases hb : Nat.blt i n
            · rfl
            · have := Nat.le_of_ble_eq_true hb; omega
      have hall2 : ∀ t, (∀ i p, ps[i]? = some p → i = m → p.1 ≠ t) → a.tmps.getD t undef = (putAll ps a0).tmps.getD t undef := fun t hnm => by
        by_cases hex : ∃ (j : Nat) (q : Nat × Value), ps[j]? = some q ∧ q.1 = t
        · obtain ⟨j, q, hj, rfl⟩ := hex
          rw [I.at1 j q (fun e => hnm j q hj e rfl) hj (hall j (by have := (List.getElem?_eq_some_iff.1 hj).1; omega)), putAll_at ps a0 j q hsz (fun m r hm hne => hdist m j r q hm hj hne) hj]
        · have hno : ∀ (j : Nat) (q : Nat × Value), ps[j]? = some q → q.1 ≠ t := fun j q hj he => hex ⟨j, q, hj, he⟩
          rw [I.at2 t (fun j q hj _ => hno j q hj), putAll_other ps a0 t hsz (fun r hr => by
            obtain ⟨m, hm⟩ := List.mem_iff_getElem?.1 hr
            exact hno m r hm)]
      have hhas := putAll_has hblt ha0
      have hwl : wpList c.P l.toArray (c.Q k) (l.drop n) a w := by
        rcases Nat.lt_or_ge m n with hmn | hmn
        · obtain ⟨g, h1, h2⟩ := I.new hmn (hall m hmn)
          obtain ⟨om, pm, hom, hpm, hdm, hbm, _⟩ := hop m hmn
          have hdm' : pm.1 = dm := by have := hm hmn; rw [hom] at this; simpa [hdm] using this
          refine (hT _ hTE).2 hmn g ok a w ⟨by rw [I.tsize]; exact ha0.size, by rw [I.defers]; exact ha0.defers, fun t v ht => ?_⟩ h2
          rw [look_cons] at ht
          by_cases e : dm = t
          · rw [if_pos e] at ht; cases ht; rw [← e]; exact h1
          · rw [if_neg e] at ht
            rw [hall2 t (fun i p hi him => by subst him; rw [hpm] at hi; cases hi; rw [hdm']; exact e)]
            exact hhas.at_ t v ht
        · refine (hT _ hTE).1 hmn ok a w ⟨by rw [I.tsize]; exact ha0.size, by rw [I.defers]; exact ha0.defers, fun t v ht => ?_⟩ I.st
          rw [hall2 t (fun i p hi him => by have := (List.getElem?_eq_some_iff.1 hi).1; omega)]
          exact hhas.at_ t v ht
      have hdl : (l.drop n).length = l.toArray.size - n := by simp
      have := wpAny_of_seq (md := .any) (ops := l.toArray) (l.drop n) n listed a w (fun j => by simp [List.getElem?_drop]) (by rw [hdl, hlist]; exact G.seq) hwl
      rw [hdl] at this
      simpa using this
    | succ h ih =>
      intro listed a w I hh
      have hheads : ∀ i ∈ Region.ready .any l.toArray listed, i < n := fun i hr => by
        rcases Nat.lt_or_ge i n with hlt | hge
        · exact hlt
        · exfalso
          obtain ⟨hu, o, ho, _⟩ := mem_ready.1 hr
          have his : i < l.toArray.size := (Array.getElem?_eq_some_iff.1 ho).1
          have hin : i = n := by
            rcases Nat.eq_or_lt_of_le hge with e | hgt
            · exact e.symm
            · have h1 := ready_waits hr (G.chain i hgt his)
              rw [I.only (i - 1) (by omega)] at h1
              cases h1
          subst hin
          have hall : ∀ m j, i - j = m → j < i → listed.getD j false = true := by
            intro m
            induction m using Nat.strongRecOn with
            | _ m ihm =>
              intro j hm hj
              obtain ⟨j', h1, h2, h3⟩ := G.sink his j hj
              rcases Nat.eq_or_lt_of_le h2 with e | hlt
              · subst e; exact ready_waits hr h3
              · exact I.closed j' j (ihm (i - j') (by omega) j' rfl hlt) h3
          have h1 : (List.range i).filter (fun i => !listed.getD i false) = [] := List.filter_eq_nil_iff.2 fun j hj => by
            rw [hall (i - j) j rfl (List.mem_range.1 hj)]; simp
          rw [h1] at hh
          simp at hh
      refine ⟨fun h0 => ?_, fun i hr => ?_⟩
      · exfalso
        -- the least head that is not listed is ready
        have hex : ∃ i, i < n ∧ listed.getD i false = false := by
          have h1 : (List.range n).filter (fun i => !listed.getD i false) ≠ [] := fun h1 => by rw [h1] at hh; simp at hh
          obtain ⟨i, hi⟩ := List.exists_mem_of_ne_nil _ h1
          obtain ⟨h2, h3⟩ := List.mem_filter.1 hi
          exact ⟨i, List.mem_range.1 h2, by simpa using h3⟩
        have least : ∀ m i, i ≤ m → i < n → listed.getD i false = false → ∃ j, j ∈ Region.ready .any l.toArray listed := by
          intro m
          induction m with
          | zero =>
            intro i him hin hu
            obtain ⟨o, _, ho, _⟩ := G.head i hin
            exact ⟨i, waits_ready ho (by rw [getD_tf (by rw [I.size]; have := G.le; omega)]; exact hu) fun j hw => by have := G.back i hin j hw; omega⟩
          | succ m ihm =>
            intro i him hin hu
            by_cases hw : ∃ j, waits l.toArray i j = true ∧ listed.getD j false = false
            · obtain ⟨j, hw, hj⟩ := hw
              have := G.back i hin j hw
              exact ihm j (by omega) (by omega) hj
            · obtain ⟨o, _, ho, _⟩ := G.head i hin
              refine ⟨i, waits_ready ho (by rw [getD_tf (by rw [I.size]; have := G.le; omega)]; exact hu) fun j hwj => ?_⟩
              cases hb : listed.getD j false
              · exact absurd ⟨j, hwj, hb⟩ hw
              · rfl
        obtain ⟨i, hi, hu⟩ := hex
        obtain ⟨j, hj⟩ := least i i (Nat.le_refl _) hi hu
        rw [h0] at hj; cases hj
      · have hin := hheads i hr
        have hu : listed.getD i false = false := by
          rw [← getD_tf (by rw [I.size]; have := G.le; omega)]
          exact (mem_ready.1 hr).1
        refine step i hin listed a w I hr _ fun a' w' I' => ih _ a' w' I' ?_
        have hc := count_set (List.nodup_range (n := n)) (p := fun i => !listed.getD i false) (p' := fun j => !(listed.setIfInBounds i true).getD j false) (List.mem_range.2 hin) (by simp [hu]) (fun j hj => by
          by_cases e : j = i
          · subst e; rw [getD_set_eq (by rw [I.size]; have := G.le; omega)]; simp
          · rw [getD_set_ne false (Ne.symm e)]; simp [e])
        omega
  have I0 : HInv c cs ty L l.toArray n m dm ps a0 (Array.replicate l.toArray.size false) a0 w0 := by
    have hf : ∀ j, (Array.replicate l.toArray.size false).getD j false = false := fun j => getD_replicate_false _ j
    exact ⟨hs0, by simp, fun t _ => hf t, fun i j hi => (by rw [hf] at hi; cases hi), rfl, rfl, fun _ hi => (by rw [hf] at hi; cases hi), fun i p _ _ hi => (by rw [hf] at hi; cases hi), fun t _ => rfl⟩
  have := main n _ a0 w0 I0 (by
    have h1 : (List.range n).filter (fun i => !(Array.replicate l.toArray.size false).getD i false) = List.range n := List.filter_eq_self.2 fun j _ => by rw [getD_replicate_false]; rfl
    rw [h1, List.length_range])
  have hsz2 := G.le
  rwa [show l.toArray.size - n + n = l.toArray.size from by omega] at this

section
variable {c : Cx} {k : List It} {E : Env} {L : List Sp} {ops : Array Oper} {o : Op} {ty : TypeId} {d : Nat} {pos : String} {af : Array Edge} {v : Value} {rest : List Oper} {T : Env → Prop}

theorem J.drawHead {id : Nat} {l : List Oper} (n : Nat) (hm : c.P.follows .mixedOrders = true) (hB : headB l.toArray n l.length = true) (h : Hd c l.toArray (fun E' => O c l.toArray (l.drop n) k E' L) L (l.take n) E) :
    J c (.code (.region id l.toArray true) :: k) E L := fun ok _ _ ha hs => wp_region_any hm (by
  have hle := (edges_of hB).le
  exact hd_sound (ok := ok) (cs := []) (ty := 0) (dm := 0) hB (fun h => by simp at hle; omega) (fun h => by simp at hle; omega) (fun _ h => ⟨fun _ => h, fun h' => by simp at hle; omega⟩) h ha hs.drew')

theorem Hd.new {T' : TypeId} (hd : Nat.blt d c.n = true) (h : Hd c ops T L rest ((d, undef) :: E)) : Hd c ops T L (⟨some d, .alloc T', ty, pos, af, none⟩ :: rest) E := ⟨d, undef, rfl, hd, .inr rfl, h⟩
theorem Hd.q (hq : Qt c E L o ty v) (hd : Nat.blt d c.n = true) (h : Hd c ops T L rest ((d, v) :: E)) : Hd c ops T L (⟨some d, o, ty, pos, af, none⟩ :: rest) E :=
  ⟨d, v, rfl, hd, .inl fun ok a w ha hs => .inl ⟨by simp [Region.wanted], .inl (hq ok a w ha hs _ _ _ _)⟩, h⟩
theorem Hd.p (hq : Pu c E o ty v) (hd : Nat.blt d c.n = true) (h : Hd c ops T L rest ((d, v) :: E)) : Hd c ops T L (⟨some d, o, ty, pos, af, none⟩ :: rest) E := Hd.q hq.qt hd h
theorem Hd.gq {j t : Nat} {want b : Bool} (hj : (ops[j]?).bind (·.dst) = some t) (ht : look E t = some (.bool b)) (hb : b = want) (hn : Nat.blt t c.n = true) (hq : Qt c E L o ty v) (hd : Nat.blt d c.n = true)
    (h : Hd c ops T L rest ((d, v) :: E)) : Hd c ops T L (⟨some d, o, ty, pos, af, some (j, want)⟩ :: rest) E :=
  ⟨d, v, rfl, hd, .inl fun ok a w ha hs => .inl ⟨wanted_yes (j := j) (t := t) (want := want) ha rfl hj (hb ▸ ht) hn, .inl (hq ok a w ha hs _ _ _ _)⟩, h⟩
theorem Hd.gskip {j t : Nat} {want : Bool} {u : Value} (hj : (ops[j]?).bind (·.dst) = some t) (ht : look E t = some u) (hu : boolOf u ≠ some want) (hn : Nat.blt t c.n = true) (hd : Nat.blt d c.n = true)
    (h : Hd c ops T L rest ((d, undef) :: E)) : Hd c ops T L (⟨some d, o, ty, pos, af, some (j, want)⟩ :: rest) E :=
  ⟨d, undef, rfl, hd, .inl fun _ _ _ ha _ => .inr ⟨wanted_no (j := j) (t := t) (want := want) ha rfl hj ht hu hn, rfl⟩, h⟩
theorem Hd.nil {E' : Env} (h : T E') : Hd c ops T L [] E' := h

/-- A call that only hands a value back. -/
theorem Hd.call {f : FuncId} {x : Operand} {xs : List Operand} {ts : Array TypeId} {vs caps : List Value} {RoC : List Sp} {post : Value → List Sp → Prop} (hcall : ∀ args w, (callFunc f args).run c.P w = .ok (.enter f args) w) (hx : ev E x = some (.func (.func f) #[] caps.toArray))
    (hxs : xs.map (ev E) = vs.map some) (ht : Tri c.P f (vs ++ caps).toArray RoC [] post) (hpost : ∀ u L', post u L' → u = v ∧ L' = []) (hro : RoOk c L [] RoC) (hd : Nat.blt d c.n = true) (h : Hd c ops T L rest ((d, v) :: E)) :
    Hd c ops T L (⟨some d, .call { callee := .value x, args := xs.toArray, argTypes := ts }, ty, pos, af, none⟩ :: rest) E :=
  ⟨d, v, rfl, hd, .inl fun ok a w ha hs => .inl ⟨by simp [Region.wanted], .inr ⟨f, (vs ++ caps).toArray, by
      have h1 : xs.map a.eval = vs := ha.evs hxs
      simp [execOp, resolve, Deferred.ofValue, invoke, ha.ev hx, h1, hcall], by
      refine (ht w (hro ok w hs) ⟨Frame.refl w _, by simp, by simp, by simp⟩).mono ?_
      rintro e w' ⟨u, L', rfl, hp, hs'⟩
      obtain ⟨rfl, rfl⟩ := hpost u L' hp
      exact ⟨rfl, hs'.fr⟩⟩⟩, h⟩
end
end Go.LK
