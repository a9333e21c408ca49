/-
  Several texts in one: Lk5, Lk6, Lk7, Lk8.
-/
import Derived.Test.YtohjlkjhpibkmaaGreatDoorLk4
import Derived.StillTail
namespace Go.LK
open Go Go.RowKit

section
variable {c : Cx} {k : List It} {E : Env} {L : List Sp} {ops : Array Oper} {rest : List Oper} {o : Op} {ty : TypeId} {d : Nat} {pos : String} {af : Array Edge} {v : Value}

theorem St.drew' {w0 w : World} {M : List Nat} (h : St w0 M L w) : St w0 M L { w with drawn := w.drawn + 1 } := h.drew _

/-! ### Operations that leave the world as it is, in the order of the text -/
def S (c : Cx) (ops : Array Oper) (T : World → Act → Prop) (rest : List Oper) (E : Env) (L : List Sp) : Prop := c.Ok → ∀ a w, Has c.n a E → St c.w0 c.M L w → wpStill c.P ops w (T w) rest a

section
variable {T : World → Act → Prop}
theorem still_of_run {P : Program} {o : Oper} {a : Act} {w : World} {v : Value} {K : Act → Prop} (h : (execOp a.eval o).run P w = .ok (.value v) w) (hk : K (a.put o.dst v)) : o.still P a w K := by
  unfold Oper.still; rw [h]; exact ⟨rfl, hk⟩

theorem S.q (hq : Qt c E L o ty v) (hd : Nat.blt d c.n = true) (h : S c ops T rest ((d, v) :: E) L) : S c ops T (⟨some d, o, ty, pos, af, none⟩ :: rest) E L := fun ok a w ha hs =>
  wpStill_step fun _ hK => by
    rw [if_pos (by simp [Region.wanted])]
    exact still_of_run (hq ok a w ha hs _ _ _ _) (hK _ (h ok _ w (ha.put v hd) hs))
theorem S.p (hq : Pu c E o ty v) (hd : Nat.blt d c.n = true) (h : S c ops T rest ((d, v) :: E) L) : S c ops T (⟨some d, o, ty, pos, af, none⟩ :: rest) E L := S.q hq.qt hd h
theorem S.m {x : Operand} (hx : ev E x = some v) (hd : Nat.blt d c.n = true) (h : S c ops T rest ((d, v) :: E) L) : S c ops T (⟨some d, .move x, ty, pos, af, none⟩ :: rest) E L := S.p (Pu.move hx) hd h
end

theorem S.endO {tail : List Oper} (h : O c ops tail k E L) : S c ops (fun w a => wpList c.P ops (c.Q k) tail a w) [] E L := fun ok a w ha hs => wpStill_nil (h ok a w ha hs)
theorem S.endJ (h : J c k E L) : S c ops (fun w a => c.Q k .normal a w) [] E L := fun ok a w ha hs => wpStill_nil (h ok a w ha hs)

theorem J.drawTail {id : Nat} {l : List Oper} (n : Nat) (hm : c.P.follows .mixedOrders = true) (hB : Region.lexTailB .any l.toArray n = true) (h : S c l.toArray (fun w a => wpList c.P l.toArray (c.Q k) (l.drop n) a w) (l.take n) E L) :
    J c (.code (.region id l.toArray true) :: k) E L := fun ok a w ha hs => wp_region_still_tail n hm hB (h ok a _ ha hs.drew')
theorem J.drawStill {id : Nat} {l : List Oper} (hm : c.P.follows .mixedOrders = true) (hB : Region.lexB .any l.toArray = true) (h : S c l.toArray (fun w a => c.Q k .normal a w) l E L) :
    J c (.code (.region id l.toArray true) :: k) E L := fun ok a w ha hs => wp_region_still hm hB (by simpa using h ok a _ ha hs.drew')

/-! ### Any order -/
def D (c : Cx) (ops : Array Oper) (m : Nat) (listed : Array Bool) (k : List It) (E : Env) (L : List Sp) : Prop := c.Ok → ∀ a w, Has c.n a E → St c.w0 c.M L w → wpAny c.P .any ops (c.Q k) m listed a w
def W (c : Cx) (ops : Array Oper) (i m : Nat) (listed : Array Bool) (k : List It) (E : Env) (L : List Sp) : Prop := c.Ok → ∀ a w, Has c.n a E → St c.w0 c.M L w → wpOp c.P ops (c.Q k) i (wpAny c.P .any ops (c.Q k) m (listed.setIfInBounds i true)) a w
def Wall (c : Cx) (ops : Array Oper) (m : Nat) (listed : Array Bool) (k : List It) (E : Env) (L : List Sp) : List Nat → Prop
  | [] => True
  | i :: rs => W c ops i m listed k E L ∧ Wall c ops m listed k E L rs

theorem J.draw {id : Nat} {l : List Oper} (hm : c.P.follows .mixedOrders = true) (listed : Array Bool) (hl : Array.replicate l.length false = listed) (h : D c l.toArray l.length listed k E L) : J c (.code (.region id l.toArray true) :: k) E L := fun ok a w ha hs =>
  wp_region_any hm (by simpa [hl] using h ok a _ ha hs.drew')

theorem Wall.mem {m : Nat} {listed : Array Bool} : ∀ {rs : List Nat}, Wall c ops m listed k E L rs → ∀ i ∈ rs, W c ops i m listed k E L
  | [], _, i, hi => by simp at hi
  | j :: rs, h, i, hi => by
    rcases List.mem_cons.1 hi with rfl | hi
    · exact h.1
    · exact h.2.mem i hi

theorem D.all {m : Nat} {listed : Array Bool} (i : Nat) (rs : List Nat) (hr : Region.ready .any ops listed = i :: rs) (h : Wall c ops m listed k E L (i :: rs)) : D c ops (m + 1) listed k E L := fun ok a w ha hs =>
  wpAny_all hr (by simp) fun j hj => h.mem j hj ok a w ha hs

theorem D.nilRow {m : Nat} {listed : Array Bool} (t : TypeId) (s : Nat) (h : D c ops m listed k E (row (.slice none 0 0) t s [] :: L)) : D c ops m listed k E L := fun ok a w ha hs =>
  h ok a w ha (hs.add (Frame.refl w _) ⟨World.ownsRow_nil w 0 t s, by simp⟩ (by simp [row, Value.ownBlock]))
theorem W.nilRow {i m : Nat} {listed : Array Bool} (t : TypeId) (s : Nat) (h : W c ops i m listed k E (row (.slice none 0 0) t s [] :: L)) : W c ops i m listed k E L := fun ok a w ha hs =>
  h ok a w ha (hs.add (Frame.refl w _) ⟨World.ownsRow_nil w 0 t s, by simp⟩ (by simp [row, Value.ownBlock]))
theorem D.done {m : Nat} {listed : Array Bool} (hr : Region.ready .any ops listed = []) (h : J c k E L) : D c ops m listed k E L := fun ok a w ha hs => wpAny_done hr (h ok a w ha hs) m

theorem Q_panic {P : Program} {R0 : Exit → Act → World → Prop} {ch : List PanicEntry} {a : Act} {w : World} : ∀ {k : List It}, Qof P R0 k (.panic ch) a w = R0 (.panic ch) a w
  | [] => rfl
  | .blk _ :: k => Q_panic (k := k)
  | .code _ :: k => Q_panic (k := k)
  | .scp :: k => Q_panic (k := k)
  | .lp _ :: k => Q_panic (k := k)

theorem D.take {m : Nat} {listed listed' : Array Bool} (i : Nat) (hi : ops[i]? = some ⟨some d, o, ty, pos, af, none⟩) (hs : Region.noSelect ops = true) (hf : Region.free .any ops listed i = true) (hr : (Region.ready .any ops listed).contains i = true)
    (hl : listed.setIfInBounds i true = listed') (hq : Pu c E o ty v) (hd : Nat.blt d c.n = true) (h : D c ops m listed' k ((d, v) :: E) L) : D c ops (m + 1) listed k E L := fun ok a w ha hst =>
  wpAny_take hi hs hf hr (fun ch a _ hp => by rw [Cx.Q, Q_panic] at hp ⊢; exact hp) (.inl ⟨by simp [Region.wanted], fun w => hq a w ha _ _ _ _⟩) (hl ▸ h ok _ w (ha.put v hd) hst)

theorem W.q {i m : Nat} {listed listed' : Array Bool} (hi : ops[i]? = some ⟨some d, o, ty, pos, af, none⟩) (hl : listed.setIfInBounds i true = listed') (hq : Qt c E L o ty v) (hd : Nat.blt d c.n = true) (h : D c ops m listed' k ((d, v) :: E) L) : W c ops i m listed k E L := fun ok a w ha hs => by
  unfold wpOp
  simp only [hi]
  rw [if_pos (by simp [Region.wanted])]
  exact .inl (wp_of_run (hq ok a w ha hs _ _ _ _) (hl ▸ h ok _ w (ha.put v hd) hs))
theorem W.l {i m : Nat} {listed listed' : Array Bool} {R : Value → List Sp → Prop} (hi : ops[i]? = some ⟨some d, o, ty, pos, af, none⟩) (hl : listed.setIfInBounds i true = listed') (hq : Lo c E L o ty R) (hd : Nat.blt d c.n = true) (h : ∀ v L', R v L' → D c ops m listed' k ((d, v) :: E) L') : W c ops i m listed k E L := fun ok a w ha hs => by
  unfold wpOp
  simp only [hi]
  rw [if_pos (by simp [Region.wanted])]
  exact .inl (hq ok a w ha hs _ _ _ _ _ _ fun v L' w' hR hs' => hl ▸ h v L' hR ok _ w' (ha.put v hd) hs')
theorem W.l0 {i m : Nat} {listed listed' : Array Bool} {R : Value → List Sp → Prop} (hi : ops[i]? = some ⟨none, o, ty, pos, af, none⟩) (hl : listed.setIfInBounds i true = listed') (hq : Lo c E L o ty R) (h : ∀ v L', R v L' → D c ops m listed' k E L') : W c ops i m listed k E L := fun ok a w ha hs => by
  unfold wpOp
  simp only [hi]
  rw [if_pos (by simp [Region.wanted])]
  exact .inl (hq ok a w ha hs _ _ _ _ _ _ fun v L' w' hR hs' => hl ▸ h v L' hR ok _ w' ha hs')

/-! ### Ways meet again -/
theorem J.cut {X : Type} (φ : X → Prop) (EE : X → Env) (LL : X → List Sp) {x : Code} (h : J c (.code x :: .lp (inv c φ EE LL (fun _ => 0) 1) :: k) E L) (h' : ∀ y, φ y → J c k (EE y) (LL y)) : J c (.code x :: k) E L := fun ok a w ha hs => by
  refine Code.wp_mono (fun e a w q => ?_) (h ok a w ha hs)
  cases e with
  | normal =>
    obtain ⟨y, hφ, _, ha', hs'⟩ := q
    exact h' y hφ ok a w ha' hs'
  | _ => exact q
end
end Go.LK

namespace Go.LK
open Go Go.RowKit

theorem one_cells {v : Value} (h : v.oneCell' = true) : v.cells = [v].toArray := by cases v <;> simp_all [Value.oneCell', Value.cells]
theorem one_all {v : Value} (h : v.oneCell' = true) : [v].all Value.oneCell' = true := by simp [h]
theorem elt_one {w : World} {v : Value} {s : Nat} {els : List (List Value)} (h : Elt w v s els) : v.oneCell' = true := by
  obtain ⟨A, cap, rfl, _⟩ := h.form
  rfl

/-- A loop over a list: what has been gathered behind the first k elements. -/
def upI {σ α : Type} (f : σ → Nat → α → σ) (z : σ) (l : List α) : Nat → σ
  | 0 => z
  | k + 1 => match l[k]? with
    | some e => f (upI f z l k) k e
    | none => upI f z l k

section
variable {c : Cx} {k : List It} {E : Env} {L : List Sp} {ops : Array Oper} {rest : List Oper} {ty : TypeId} {v V : Value} {x y z : Operand} {T t : TypeId} {s : Nat}
variable {α : Type} {f : α → List Value} {l : List α}

theorem J.one {els : List (List Value)} (hs : Src c L V s els) (h : V.oneCell' = true → J c k E L) : J c k E L := fun ok a w ha hst => h (elt_one (hs ok w hst)) ok a w ha hst
theorem O.one {els : List (List Value)} (hs : Src c L V s els) (h : V.oneCell' = true → O c ops rest k E L) : O c ops rest k E L := fun ok a w ha hst => h (elt_one (hs ok w hst)) ok a w ha hst
theorem W.one {els : List (List Value)} {i m : Nat} {listed : Array Bool} (hs : Src c L V s els) (h : V.oneCell' = true → W c ops i m listed k E L) : W c ops i m listed k E L := fun ok a w ha hst => h (elt_one (hs ok w hst)) ok a w ha hst
theorem D.one {els : List (List Value)} {m : Nat} {listed : Array Bool} (hs : Src c L V s els) (h : V.oneCell' = true → D c ops m listed k E L) : D c ops m listed k E L := fun ok a w ha hst => h (elt_one (hs ok w hst)) ok a w ha hst

theorem Qt.lenM {e : Nat} (hT : ∀ w, (underlying T).run c.P w = .ok (.slice e) w) (hx : ev E x = some V) (hs : Src c L V s (l.map f)) :
    Qt c E L (.call { callee := .builtin .len, args := #[x], argTypes := #[T] }) ty (.int .i64 l.length) := by
  have := Qt.lenE (ty := ty) hT hx hs
  rwa [List.length_map] at this

theorem Qt.idxM {e : Nat} {m : Int} (hT : ∀ w, (underlying T).run c.P w = .ok (.slice e) w) (hz : ∀ w, (sizeOf e).run c.P w = .ok s w) (hx : ev E x = some V) (hs : Src c L V s (l.map f)) (hy : ev E y = some (.int .i64 m)) (h0 : 0 ≤ m) (h1 : m < l.length) :
    Qt c E L (.indexAddr T x y) ty (.pointer (some ⟨vblk V, voff V + m.toNat * s, none⟩)) := Qt.idx hT hz hx hs hy h0 (by rwa [List.length_map])

theorem Cel.eltM {i : Nat} {a : α} (hs : Src c L v s (l.map f)) (hi : l[i]? = some a) : Cel c L (vblk v) (voff v + i * s) (f a) := Cel.elt hs (by rw [List.getElem?_map, hi]; rfl)

theorem Lo.appendM (i : Nat) {Y : Value} {l' : List α} {e : TypeId} {inf : TypeInfo} {zv : Value} {bytes : Nat} (hT : c.P.underlying T = some (.slice t)) (hinf : c.P.info? t = some inf) (hz : inf.zero = some zv) (hsz : inf.size = s) (hby : inf.bytes = bytes) (hzs : zv.cells.size = s) (hs0 : Nat.blt 0 s = true)
    (hx : ev E x = some V) (hi : L[i]? = some (row V t s (l.map f))) (hy : ev E y = some Y) (hs : Src c L Y s (l'.map f)) (h1 : ∀ a ∈ l', (f a).all Value.oneCell' = true)
    (h63 : l.length + l'.length ≤ 9223372036854775807) (hb : (l.length + l'.length) * bytes ≤ 140737488355328) :
    Lo c E L (.call { callee := .builtin .append, args := #[x, y], argTypes := #[T, T] }) e fun v L' => L' = L.set i (row v t s ((l ++ l').map f)) := by
  have := Lo.append (c := c) (E := E) (L := L) (e := e) i hT hinf hz hsz hby hzs (Nat.le_of_ble_eq_true hs0) hx hi hy hs (by simpa using h1) (by simpa [maxLen] using h63) (by simpa using hb)
  simpa using this

theorem Lo.storeM (i : Nat) {g p j off sz : Nat} {a : α} {e vs : List Value} {u : Value} (a' : α) (hx : ev E x = some (.pointer (some ⟨g, p, none⟩))) (hy : ev E y = some u) (hi : L[i]? = some (row V t s (l.map f))) (hg : g = vblk V) (hp : p = voff V + j * s + off)
    (hj : l[j]? = some a) (he : f a = e) (hs : ∀ w, (sizeOf T).run c.P w = .ok sz w)
    (hc : u.cells = vs.toArray) (hl : vs.length = sz) (h1 : (vs.all Value.oneCell') = true) (hcs : e.take off ++ vs ++ e.drop (off + vs.length) = f a') (hfit : Nat.ble (off + sz) s = true) :
    Lo c E L (.store T x y) ty fun _ L' => L' = L.set i (row V t s ((l.set j a').map f)) := by
  have := Lo.storeE (c := c) (E := E) (L := L) (ty := ty) (j := j) (e := e) i (f a') hx hy hi hg hp (by rw [List.getElem?_map, hj, ← he]; rfl) hs hc hl h1 hcs (Nat.le_of_ble_eq_true hfit)
  simpa [List.map_set] using this

theorem Lo.buildM {n : Nat} {parts : List (Nat × Operand)} (f : α → List Value) (l : List α) (vs : List (Nat × Value)) {zv : Value} (hT : ∀ w, (underlying T).run c.P w = .ok (.slice t) w) (hs : ∀ w, (sizeOf t).run c.P w = .ok s w) (hz : ∀ w, (zeroValue t).run c.P w = .ok zv w)
    (hp : parts.map (fun p => (p.1, ev E p.2)) = vs.map (fun p => (p.1, some p.2))) (hn : Nat.ble (n * s) 16777216 = true) (hn0 : Nat.blt 0 (n * s) = true)
    (hf : Instr.fill (fun i => some (i * s, s)) ((Array.range (n * s)).map (zv.cells[· % zv.cells.size]!)) vs = some (l.map f).flatten.toArray) (hl : (l.map f).length = n) (hle : ((l.map f).all (fun e => e.length == s)) = true) :
    Lo c E L (.buildSlice T n parts.toArray) ty fun v L' => L' = row v t s (l.map f) :: L := Lo.buildSlice vs (l.map f) hT hs hz hp hn hn0 hf hl hle

theorem Fin.ret {w : World} {M : List Nat} {post : Value → List Sp → Prop} {P : Program} {fn : Func} {n : Nat} {Ro : List Sp} {rs : List ResultVar} (hr : fn.results = rs.toArray) (vs : List Value) (hv : RVs ⟨P, fn, n, w, M, Ro, endPost w M post⟩ E L rs vs) (is : List Nat) (hn : is.Nodup) (L' : List Sp) (hL : LK.sel L is = L') (h : post (vOf vs) L') :
    Fin ⟨P, fn, n, w, M, Ro, endPost w M post⟩ E L := Fin.mk hr vs hv is hn L' hL fun _ hs => ⟨_, _, rfl, h, hs⟩
end
end Go.LK

namespace Go.LK
open Go Go.RowKit

def intVals (as : List Int) : List Value := as.map (.int .i64)

def FInt (P : Program) : Nat → List Field → Prop
  | _, [] => True
  | i, f :: fs => f.offset = i ∧ (f.name == "_") = false ∧ P.underlying f.type = some (.int .i64) ∧ FInt P (i + 1) fs

theorem run_eqFields {P : Program} {w : World} {d : Nat} (as bs : List Int) : ∀ (fs : List Field) (i : Nat), FInt P i fs → i + fs.length = as.length → i + fs.length = bs.length →
    (Op.eqFields (d + 1) (intVals as).toArray (intVals bs).toArray fs).run P w = .ok (decide (as.drop i = bs.drop i)) w
  | [], i, _, ha, hb => by
    have h1 : as.drop i = [] := List.drop_eq_nil_of_le (by simp at ha; omega)
    have h2 : bs.drop i = [] := List.drop_eq_nil_of_le (by simp at hb; omega)
    simp [Op.eqFields, h1, h2]
  | f :: fs, i, hf, ha, hb => by
    obtain ⟨ho, hn, hu, hr⟩ := hf
    have ih := run_eqFields (P := P) (w := w) (d := d) as bs fs (i + 1) hr (by simp at ha; omega) (by simp at hb; omega)
    have hla : i < as.length := by simp at ha; omega
    have hlb : i < bs.length := by simp at hb; omega
    have hn' : ¬ f.name = "_" := by simpa using hn
    have hag : ∀ w, (isAgg f.type).run P w = .ok false w := fun w => by simp [isAgg, run_underlying hu]
    have pa : ∀ (cs : List Int) (h : i < cs.length), (part f.type (intVals cs).toArray f.offset).run P w = .ok (.int .i64 cs[i]) w := fun cs h => by
      simp [part, hag, ho, intVals, h]
    simp only [Op.eqFields, if_pos hn', Sem.run_bind, pa as hla, pa bs hlb, Result.andThen_ok, run_equalIn_int w d f.type .i64 .i64 _ _ hu, Sem.run_ite]
    have key : (as.drop i = bs.drop i) ↔ (as[i] = bs[i] ∧ as.drop (i + 1) = bs.drop (i + 1)) := by
      rw [List.drop_eq_getElem_cons hla, List.drop_eq_getElem_cons hlb, List.cons.injEq]
    by_cases he : as[i] = bs[i]
    · have : decide (as.drop i = bs.drop i) = decide (as.drop (i + 1) = bs.drop (i + 1)) := decide_eq_decide.2 (key.trans ⟨fun h => h.2, fun h => ⟨he, h⟩⟩)
      rw [this]
      simp [he, ih]
    · have : decide (as.drop i = bs.drop i) = false := decide_eq_false fun h => he (key.1 h).1
      rw [this]
      simp [he]

section
variable {c : Cx} {E : Env} {L : List Sp} {ty : TypeId} {x y : Operand} {T : TypeId}
theorem run_eqI {P : Program} {fs : Array Field} (as bs : List Int) (hT : P.underlying T = some (.struct fs)) (hp : P.stoodInHeld T = false) (hf : FInt P 0 fs.toList) (ha : as.length = fs.size) (hb : bs.length = fs.size) (w : World) :
    (Op.equalIn 10000 T (.agg (intVals as).toArray) (.agg (intVals bs).toArray)).run P w = .ok (decide (as = bs)) w := by
  have h1 : P.fieldsOf T = fs := by simp [Program.fieldsOf, hT]
  rw [run_equalIn_struct w 9999 T _ _ (by rw [h1]; exact hT) hp, h1]
  have := run_eqFields (P := P) (w := w) (d := 9998) as bs fs.toList 0 hf (by simp [ha]) (by simp [hb])
  simpa using this

theorem Pu.eqlI {fs : Array Field} (as bs : List Int) (hT : c.P.underlying T = some (.struct fs)) (hp : c.P.stoodInHeld T = false) (hg : c.P.eqGuardType c.P.depth T = false) (hf : FInt c.P 0 fs.toList) (ha : as.length = fs.size) (hb : bs.length = fs.size)
    (hx : ev E x = some (.agg (intVals as).toArray)) (hy : ev E y = some (.agg (intVals bs).toArray)) : Pu c E (.binOp .eql T x y T) ty (.bool (decide (as = bs))) := fun a w h _ _ _ _ => by
  simp only [execOp, h.ev hx, h.ev hy, Sem.run_bind, run_eqGuard_agg w .eql T x y _ _ hg, Result.andThen_ok, run_eql_struct, run_eqI as bs hT hp hf ha hb w, Sem.run_pure]

theorem Pu.bneq {p q : Bool} (hT : c.P.underlying T = some .bool) (hx : ev E x = some (.bool p)) (hy : ev E y = some (.bool q)) : Pu c E (.binOp .neq T x y T) ty (.bool (p != q)) := fun a w h _ _ _ _ => by
  have h1 := run_equalIn_bool (P := c.P) w 9999 T p q hT
  simp [execOp, h.ev hx, h.ev hy, eqGuard, binOp, Op.equal, Op.maxDepth, h1]
  cases p <;> cases q <;> rfl
end
end Go.LK

namespace Go.LK
open Go Go.RowKit

/-- What operation o comes to, in every world of the class: a value (the world stays in the class), or nothing, being guarded. -/
def Out (c : Cx) (E : Env) (L : List Sp) (ops : Array Oper) (o : Oper) (v : Value) : Prop :=
  c.Ok → ∀ a w, Has c.n a E → St c.w0 c.M L w →
    (Region.wanted o (yielded ops a.tmps) = true ∧ ((execOp a.eval o).run c.P w = .ok (.value v) w ∨
      ∃ f args, (execOp a.eval o).run c.P w = .ok (.enter f args) w ∧ Calls c.P f args w fun e w' => e = .returned v ∧ Frame w [] w')) ∨
    (Region.wanted o (yielded ops a.tmps) = false ∧ v = undef)

/-- A new variable. -/
structure Al (c : Cx) (cs : List Value) (ty : TypeId) (o : Oper) : Prop where
  op : o.op = .alloc ty
  guard : o.guard = none
  run : ∀ (ev : Operand → Value) w, (execOp ev o).run c.P w = .ok (.value (.pointer (some ⟨w.heap.size, 0, none⟩))) (w.alloc (.cells cs.toArray ty))

def notAlloc (o : Oper) : Bool := match o.op with | .alloc _ => false | _ => true
/-- The heads, one behind the other; one of them may come to a new variable. -/
def Hd (c : Cx) (ops : Array Oper) (T : Env → Prop) (L : List Sp) : List Oper → Env → Prop
  | [], E => T E
  | o :: rest, E => ∃ d v, o.dst = some d ∧ Nat.blt d c.n = true ∧ (Out c E L ops o v ∨ notAlloc o = false) ∧ Hd c ops T L rest ((d, v) :: E)

def waits (ops : Array Oper) (i j : Nat) : Bool :=
  match ops[i]? with
  | some o => o.after.any fun e => Region.binds .any e && e.on == j
  | none => false

def pre : List (Nat × Value) → Env → Env
  | [], E => E
  | p :: ps, E => pre ps (p :: E)

theorem put_slot (a : Act) (d t : Nat) (v : Value) (hd : d < a.tmps.size) : (a.put (some d) v).tmps.getD t undef = if d = t then v else a.tmps.getD t undef := by
  simp only [Act.put]
  by_cases e : d = t
  · subst e; simp [Array.getD_eq_getD_getElem?, hd]
  · rw [if_neg e, Array.getD_eq_getD_getElem?, Array.getD_eq_getD_getElem?, Array.getElem?_setIfInBounds_ne e]

theorem nodup_erase : ∀ (l : List Nat), l.Nodup → ∀ i, l.erase i = l.filter (fun j => j != i)
  | [], _, _ => rfl
  | a :: l, h, i => by
    rw [List.nodup_cons] at h
    by_cases e : a = i
    · subst e
      have h2 : l.filter (fun j => j != a) = l := List.filter_eq_self.2 fun j hj => by
        have : j ≠ a := fun e => h.1 (e ▸ hj)
        simpa using this
      simp [h2]
    · have h3 : (a == i) = false := by simpa using e
      rw [List.erase_cons, h3, List.filter_cons]
      simp [e, nodup_erase l h.2 i]

theorem count_set {l : List Nat} (hnd : l.Nodup) {p p' : Nat → Bool} {i : Nat} (hi : i ∈ l) (hp : p i = true) (h : ∀ j ∈ l, p' j = (p j && j != i)) : (l.filter p').length + 1 = (l.filter p).length := by
  have e : l.filter p' = (l.filter p).erase i := by
    rw [nodup_erase _ (hnd.filter p) i, List.filter_filter]
    exact List.filter_congr fun j hj => by rw [h j hj, Bool.and_comm]
  have hm : i ∈ l.filter p := List.mem_filter.2 ⟨hi, hp⟩
  rw [e, List.length_erase_of_mem hm]
  have := List.length_pos_of_mem hm
  omega

structure Edges (ops : Array Oper) (n m : Nat) : Prop where
  nosel : ∀ (j : Nat) (o : Oper) cs b, ops[j]? = some o → o.op ≠ .select cs b
  le : n ≤ ops.size
  back : ∀ i, i < n → ∀ j, waits ops i j = true → j < i
  head : ∀ i, i < n → ∃ o d, ops[i]? = some o ∧ o.dst = some d ∧ (∀ j p, j < n → j ≠ i → ops[j]? = some p → p.dst ≠ some d) ∧ d ∉ o.looksAt ops ∧
    ∀ t ∈ o.looksAt ops, ∀ j p, j < n → ops[j]? = some p → p.dst = some t → waits ops i j = true
  sink : n < ops.size → ∀ i, i < n → ∃ j, i < j ∧ j ≤ n ∧ waits ops j i = true
  chain : ∀ t, n < t → t < ops.size → waits ops t (t - 1) = true
  still : ∀ i, i < n → waits ops i m = false
  alloc : ∀ i o, i < n → i ≠ m → ops[i]? = some o → notAlloc o = true
  seq : Region.seqB .any ops (ops.size - n) n ((List.range ops.size).map (fun i => Nat.blt i n)).toArray = true

theorem ready_waits {ops : Array Oper} {listed : Array Bool} {i j : Nat} (hr : i ∈ Region.ready .any ops listed) (hw : waits ops i j = true) : listed.getD j false = true := by
  obtain ⟨_, o, ho, hall⟩ := mem_ready.1 hr
  unfold waits at hw
  rw [ho] at hw
  obtain ⟨e, he, hb⟩ := Array.any_eq_true'.1 hw
  simp only [Bool.and_eq_true, beq_iff_eq] at hb
  rw [← hb.2]
  exact hall e he hb.1

theorem waits_ready {ops : Array Oper} {listed : Array Bool} {i : Nat} {o : Oper} (ho : ops[i]? = some o) (hu : listed.getD i true = false) (h : ∀ j, waits ops i j = true → listed.getD j false = true) : i ∈ Region.ready .any ops listed :=
  mem_ready.2 ⟨hu, o, ho, fun e he hb => h e.on (by
    unfold waits; rw [ho]
    exact Array.any_eq_true'.2 ⟨e, he, by simp [hb]⟩)⟩

/-- What holds whenever the heads that are listed have come up. -/
structure HInv (c : Cx) (cs : List Value) (ty : TypeId) (L : List Sp) (ops : Array Oper) (n m dm : Nat) (ps : List (Nat × Value)) (a0 : Act) (listed : Array Bool) (a : Act) (w : World) : Prop where
  st : St c.w0 c.M L w
  size : listed.size = ops.size
  only : ∀ t, n ≤ t → listed.getD t false = false
  closed : ∀ i j, listed.getD i false = true → waits ops i j = true → listed.getD j false = true
  tsize : a.tmps.size = a0.tmps.size
  defers : a.defers = a0.defers
  new : m < n → listed.getD m false = true → ∃ g, a.tmps.getD dm undef = .pointer (some ⟨g, 0, none⟩) ∧ St c.w0 c.M (var g cs ty :: L) w
  at1 : ∀ i p, i ≠ m → ps[i]? = some p → listed.getD i false = true → a.tmps.getD p.1 undef = p.2
  at2 : ∀ t, (∀ i p, ps[i]? = some p → listed.getD i false = true → p.1 ≠ t) → a.tmps.getD t undef = a0.tmps.getD t undef

theorem getD_tf {listed : Array Bool} {i : Nat} (hi : i < listed.size) : listed.getD i true = listed.getD i false := by
  rw [Array.getD_eq_getD_getElem?, Array.getD_eq_getD_getElem?, Array.getElem?_eq_getElem hi]; rfl
theorem getD_set_eq {listed : Array Bool} {i : Nat} (hi : i < listed.size) : (listed.setIfInBounds i true).getD i false = true := by
  rw [Array.getD_eq_getD_getElem?]; simp [hi]

section
variable {c : Cx} {k : List It} {E : Env} {L : List Sp} {ops : Array Oper} {o : Op} {ty : TypeId} {d : Nat} {pos : String} {af : Array Edge} {v : Value} {rest : List Oper} {T : Env → Prop}

theorem Hd.new {T' : TypeId} (hd : Nat.blt d c.n = true) (h : Hd c ops T L rest ((d, undef) :: E)) : Hd c ops T L (⟨some d, .alloc T', ty, pos, af, none⟩ :: rest) E := ⟨d, undef, rfl, hd, .inr rfl, h⟩
theorem Hd.q (hq : Qt c E L o ty v) (hd : Nat.blt d c.n = true) (h : Hd c ops T L rest ((d, v) :: E)) : Hd c ops T L (⟨some d, o, ty, pos, af, none⟩ :: rest) E :=
  ⟨d, v, rfl, hd, .inl fun ok a w ha hs => .inl ⟨by simp [Region.wanted], .inl (hq ok a w ha hs _ _ _ _)⟩, h⟩
theorem Hd.p (hq : Pu c E o ty v) (hd : Nat.blt d c.n = true) (h : Hd c ops T L rest ((d, v) :: E)) : Hd c ops T L (⟨some d, o, ty, pos, af, none⟩ :: rest) E := Hd.q hq.qt hd h
theorem Hd.nil {E' : Env} (h : T E') : Hd c ops T L [] E' := h

/-- A call that only hands a value back. -/
theorem Hd.call {f : FuncId} {x : Operand} {xs : List Operand} {ts : Array TypeId} {vs caps : List Value} {RoC : List Sp} {post : Value → List Sp → Prop} (hcall : ∀ args w, (callFunc f args).run c.P w = .ok (.enter f args) w) (hx : ev E x = some (.func (.func f) #[] caps.toArray))
    (hxs : xs.map (ev E) = vs.map some) (ht : Tri c.P f (vs ++ caps).toArray RoC [] post) (hpost : ∀ u L', post u L' → u = v ∧ L' = []) (hro : RoOk c L [] RoC) (hd : Nat.blt d c.n = true) (h : Hd c ops T L rest ((d, v) :: E)) :
    Hd c ops T L (⟨some d, .call { callee := .value x, args := xs.toArray, argTypes := ts }, ty, pos, af, none⟩ :: rest) E :=
  ⟨d, v, rfl, hd, .inl fun ok a w ha hs => .inl ⟨by simp [Region.wanted], .inr ⟨f, (vs ++ caps).toArray, by
      have h1 : xs.map a.eval = vs := ha.evs hxs
      simp [execOp, resolve, Deferred.ofValue, invoke, ha.ev hx, h1, hcall], by
      refine (ht w (hro ok w hs) ⟨Frame.refl w _, by simp, by simp, by simp⟩).mono ?_
      rintro e w' ⟨u, L', rfl, hp, hs'⟩
      obtain ⟨rfl, rfl⟩ := hpost u L' hp
      exact ⟨rfl, hs'.fr⟩⟩⟩, h⟩
end
end Go.LK
