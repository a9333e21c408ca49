/-
  Maps whose keys are integers, or structs of integers: a block that reads as a list of pairs.
-/
import Derived.Test.YtnkhmbbnabejhaaGreatDoorLk9
import Derived.MapKept
import Derived.Carry
namespace Go.LK
open Go Go.RowKit

section
variable {α : Type}
def getM : List (List Int × α) → List Int → Option α
  | [], _ => none
  | p :: m, k => if p.1 = k then some p.2 else getM m k
def setM : List (List Int × α) → List Int → α → List (List Int × α)
  | [], k, v => [(k, v)]
  | p :: m, k, v => if p.1 = k then (k, v) :: m else p :: setM m k v
def atM : List (List Int × α) → List Int → Nat → Option (Nat × α)
  | [], _, _ => none
  | p :: m, k, i => if p.1 = k then some (i, p.2) else atM m k (i + 1)
theorem getM_setM (m : List (List Int × α)) (k k' : List Int) (v : α) : getM (setM m k v) k' = if k = k' then some v else getM m k' := by
  induction m with
  | nil => simp [setM, getM]
  | cons p m ih =>
    simp only [setM]
    by_cases h : p.1 = k
    · rw [if_pos h]; simp only [getM]
      by_cases h2 : k = k'
      · simp [h2]
      · have : ¬ p.1 = k' := fun e => h2 (h.symm.trans e)
        simp [h2, this]
    · rw [if_neg h]; simp only [getM, ih]
      by_cases h2 : k = k'
      · subst h2; simp [h]
      · simp [h2]
theorem atM_get (m : List (List Int × α)) (k : List Int) : ∀ i, (atM m k i).map (·.2) = getM m k := by
  induction m with
  | nil => intro i; rfl
  | cons p m ih =>
    intro i
    simp only [atM, getM]
    split
    · rfl
    · exact ih (i + 1)
theorem atM_some {m : List (List Int × α)} {k : List Int} : ∀ {i j : Nat} {v u : α}, atM m k i = some (j, v) → ∃ n, j = i + n ∧ n < m.length ∧ (m[n]?).map (·.1) = some k ∧ setM m k u = m.set n (k, u) := by
  induction m with
  | nil => intro i j v u h; simp [atM] at h
  | cons p m ih =>
    intro i j v u h
    simp only [atM] at h
    by_cases hp : p.1 = k
    · rw [if_pos hp] at h
      simp at h
      exact ⟨0, by omega, by simp, by simp [hp], by simp [setM, hp]⟩
    · rw [if_neg hp] at h
      obtain ⟨n, h1, h2, h3, h4⟩ := ih (u := u) h
      exact ⟨n + 1, by omega, by simp; omega, by simpa using h3, by simp [setM, hp, h4]⟩
theorem atM_none {m : List (List Int × α)} {k : List Int} : ∀ {i : Nat} {u : α}, atM m k i = none → setM m k u = m ++ [(k, u)] := by
  induction m with
  | nil => intro i u _; rfl
  | cons p m ih =>
    intro i u h
    simp only [atM] at h
    by_cases hp : p.1 = k
    · rw [if_pos hp] at h; cases h
    · rw [if_neg hp] at h
      simp [setM, hp, ih (u := u) h]
theorem getM_map {β : Type} (f : α → β) (m : List (List Int × α)) (k : List Int) : getM (m.map fun p => (p.1, f p.2)) k = (getM m k).map f := by
  induction m with
  | nil => rfl
  | cons p m ih => simp only [List.map_cons, getM, ih]; split <;> rfl
theorem setM_map {β : Type} (f : α → β) (m : List (List Int × α)) (k : List Int) (v : α) : setM (m.map fun p => (p.1, f p.2)) k (f v) = (setM m k v).map fun p => (p.1, f p.2) := by
  induction m with
  | nil => rfl
  | cons p m ih => simp only [List.map_cons, setM, ih]; split <;> rfl
theorem setM_keys {m : List (List Int × α)} {k : List Int} {v : α} {n : Nat} (hm : ∀ p ∈ m, p.1.length = n) (hk : k.length = n) : ∀ p ∈ setM m k v, p.1.length = n := by
  induction m with
  | nil => intro p hp; simp [setM] at hp; subst hp; exact hk
  | cons q m ih =>
    intro p hp
    simp only [setM] at hp
    split at hp
    · rcases List.mem_cons.1 hp with rfl | hp
      · exact hk
      · exact hm p (by simp [hp])
    · rcases List.mem_cons.1 hp with rfl | hp
      · exact hm _ (by simp)
      · exact ih (fun q hq => hm q (by simp [hq])) p hp
end

/-- What the model does with a key of type t that is laid as 'enc'. -/
structure KT (P : Program) (t : TypeId) (enc : List Int → Value) (n : Nat) : Prop where
  check : ∀ (w : World) (em : Bool) (k : List Int), k.length = n → (Instr.checkKey em 10000 t (enc k)).run P w = .ok () w
  find : ∀ (w : World) (k : List Int) (es : List MapEntry) (m : List (List Int × Value)), es.map (fun e => (e.key, e.val)) = m.map (fun p => (enc p.1, p.2)) → k.length = n → (∀ p ∈ m, p.1.length = n) →
    (Instr.findKey t (enc k) es).run P w = .ok (atM m k 0) w
  bits : ∀ k, k.length = n → Instr.sameBits 10000 (enc k) (enc k) = true

def encI : List Int → Value
  | [a] => .int .i64 a
  | _ => .int .i64 0
def encR (k : List Int) : Value := .agg (intVals k).toArray

theorem len1 {k : List Int} (h : k.length = 1) : ∃ a, k = [a] := by
  match k, h with
  | [a], _ => exact ⟨a, rfl⟩

theorem KT.int {P : Program} {t : TypeId} (ht : P.underlying t = some (.int .i64)) : KT P t encI 1 where
  check w em k hk := by
    obtain ⟨a, rfl⟩ := len1 hk
    unfold Instr.checkKey
    simp [run_underlying ht, Result.andThen, encI]
  find w k es m he hk hm := by
    obtain ⟨a, rfl⟩ := len1 hk
    have key : ∀ (es : List MapEntry) (m : List (List Int × Value)) (i : Nat), es.map (fun e => (e.key, e.val)) = m.map (fun p => (encI p.1, p.2)) → (∀ p ∈ m, p.1.length = 1) → Instr.findNow (.int .i64) (.int .i64 a) es i = some (atM m [a] i) := by
      intro es
      induction es with
      | nil =>
        intro m i he _
        have : m = [] := by simpa using he.symm
        subst this; rfl
      | cons e es ih =>
        intro m i he hm
        cases m with
        | nil => simp at he
        | cons p m =>
          simp only [List.map_cons, List.cons.injEq, Prod.mk.injEq] at he
          obtain ⟨⟨h1, h2⟩, h3⟩ := he
          obtain ⟨b, hb⟩ := len1 (hm p (by simp))
          simp only [Instr.findNow, h1, hb, encI, Instr.sameNow, if_true, atM]
          by_cases hab : a = b
          · subst hab; simp [h2]
          · have h4 : (a == b) = false := by simpa using hab
            have h5 : ¬ [b] = [a] := by simpa using fun e => hab e.symm
            rw [h4, if_neg h5]
            exact ih m (i + 1) h3 fun q hq => hm q (by simp [hq])
    have h1 := key es m 0 he hm
    simp only [Instr.findKey, Sem.run_bind, run_underlying ht, Result.andThen_ok, encI, h1, Sem.run_pure]
  bits k hk := by
    obtain ⟨a, rfl⟩ := len1 hk
    simp [encI, Instr.sameBits]

theorem run_checkFields {P : Program} {w : World} {em : Bool} {d : Nat} (as : List Int) : ∀ (fs : List Field) (i : Nat), FInt P i fs → i + fs.length = as.length →
    (forIn (m := Sem) fs PUnit.unit fun f (_ : PUnit) => if f.name ≠ "_" then (part f.type (intVals as).toArray f.offset >>= fun x => Instr.checkKey em (d + 1) f.type x >>= fun _ => pure (ForInStep.yield PUnit.unit)) else pure (ForInStep.yield PUnit.unit)).run P w = .ok PUnit.unit w
  | [], i, _, _ => by simp
  | f :: fs, i, hf, ha => by
    obtain ⟨ho, hn, hu, hr⟩ := hf
    have ih := run_checkFields (P := P) (w := w) (em := em) (d := d) as fs (i + 1) hr (by simp at ha; omega)
    have hla : i < as.length := by simp at ha; omega
    have hn' : ¬ f.name = "_" := by simpa using hn
    have hag : ∀ w, (isAgg f.type).run P w = .ok false w := fun w => by simp [isAgg, run_underlying hu]
    have pa : (part f.type (intVals as).toArray f.offset).run P w = .ok (.int .i64 as[i]) w := by simp [part, hag, ho, intVals, hla]
    have hc : (Instr.checkKey em (d + 1) f.type (.int .i64 as[i])).run P w = .ok () w := by
      unfold Instr.checkKey
      simp [run_underlying hu, Result.andThen]
    rw [List.forIn_cons]
    simp only [ne_eq, hn', not_false_eq_true, if_true, Sem.run_bind, pa, Result.andThen_ok, hc, Sem.run_pure, ih]

theorem KT.str {P : Program} {t : TypeId} {fs : Array Field} (ht : P.underlying t = some (.struct fs)) (hp : P.stoodInHeld t = false) (hf : FInt P 0 fs.toList) : KT P t encR fs.size where
  check w em k hk := by
    have h := run_checkFields (P := P) (w := w) (em := em) (d := 9998) k fs.toList 0 hf (by simpa using hk.symm)
    unfold Instr.checkKey
    simp only [Sem.run_bind, run_underlying ht, Result.andThen_ok, encR]
    rw [← Array.forIn_toList]
    exact (congrArg (fun r : Result PUnit => r.andThen fun a w' => (pure () : Sem Unit).run P w') h).trans rfl
  find w k es m he hk hm := by
    have asking : ∀ (es : List MapEntry) (m : List (List Int × Value)) (i : Nat), es.map (fun e => (e.key, e.val)) = m.map (fun p => (encR p.1, p.2)) → (∀ p ∈ m, p.1.length = fs.size) → (Instr.findAsking t (encR k) es i).run P w = .ok (atM m k i) w := by
      intro es
      induction es with
      | nil =>
        intro m i he _
        have : m = [] := by simpa using he.symm
        subst this; rfl
      | cons e es ih =>
        intro m i he hm
        cases m with
        | nil => simp at he
        | cons p m =>
          simp only [List.map_cons, List.cons.injEq, Prod.mk.injEq] at he
          obtain ⟨⟨h1, h2⟩, h3⟩ := he
          have h4 := run_eqI k p.1 ht hp hf hk (hm p (by simp)) w
          have h5 : (Op.equal t (encR k) (encR p.1)).run P w = .ok (decide (k = p.1)) w := h4
          simp only [Instr.findAsking, h1, Sem.run_bind, h5, Result.andThen_ok, atM, Sem.run_ite]
          by_cases hkp : k = p.1
          · subst hkp; simp [h2]
          · have h6 : ¬ p.1 = k := fun e => hkp e.symm
            simp only [hkp, h6, decide_false, if_false, Bool.false_eq_true]
            exact ih m (i + 1) h3 fun q hq => hm q (by simp [hq])
    cases es with
    | nil =>
      have : m = [] := by simpa using he.symm
      subst this
      simp [Instr.findKey, run_underlying ht, Result.andThen, Instr.findNow, atM]
    | cons e es =>
      cases m with
      | nil => simp at he
      | cons p m =>
        have h1 : Instr.findNow (.struct fs) (encR k) (e :: es) 0 = none := by simp [Instr.findNow, Instr.sameNow]
        simp only [Instr.findKey, Sem.run_bind, run_underlying ht, Result.andThen_ok, h1]
        exact asking _ _ 0 he hm
  bits k hk := by
    simp only [encR, Instr.sameBits, intVals]
    simp [List.all_map, List.zip_map', Function.comp_def]
    intro a _
    simp [Instr.sameBits]

/-- A map of the call's own. -/
def mp (b : Nat) (enc : List Int → Value) (n : Nat) (m : List (List Int × Value)) : Sp where
  foot := [b]
  holds w := (∃ arr clock, w.heap[b]? = some (.map arr clock) ∧ arr.toList.map (fun e => (e.key, e.val)) = m.map (fun p => (enc p.1, p.2))) ∧ ∀ p ∈ m, p.1.length = n
  lt w h k hk := by
    obtain ⟨⟨arr, clock, h1, _⟩, _⟩ := h
    simp at hk; subst hk
    exact (Array.getElem?_eq_some_iff.1 h1).1
  loc w w' hw h := by
    obtain ⟨⟨arr, clock, h1, h2⟩, h3⟩ := h
    exact ⟨⟨arr, clock, by rw [hw b (by simp)]; exact h1, h2⟩, h3⟩

section
variable {c : Cx} {E : Env} {L : List Sp} {ty T k e : TypeId} {x y z : Operand} {b n : Nat} {enc : List Int → Value} {m : List (List Int × Value)}

theorem Lo.makeMap (enc : List Int → Value) (n : Nat) : Lo c E L (.makeMap T none) ty fun v L' => ∃ b, v = .map (some b) ∧ L' = mp b enc n [] :: L := fun _ a w _ hs d pos af g K Q hK =>
  wp_loud (v := .map (some w.heap.size)) (w' := w.alloc (.map #[] 0)) (by simp [execOp, run_makeMap])
    (hK _ _ _ ⟨_, rfl, rfl⟩ (hs.add (frame_alloc w _) ⟨⟨#[], 0, heap_alloc_new w _, rfl⟩, by simp⟩ (by simp [mp])))

theorem run_lookM {P : Program} {w : World} {key : List Int} {zv : Value} (hT : P.underlying T = some (.map k e)) (hk : KT P k enc n) (hz : ∀ w, (zeroValue e).run P w = .ok zv w) (hm : (mp b enc n m).holds w) (hl : key.length = n) (ok : Bool) :
    (Instr.lookup T (.map (some b)) (enc key) ok).run P w = .ok (if ok then .tuple #[(getM m key).getD zv, .bool (getM m key).isSome] else (getM m key).getD zv) w := by
  obtain ⟨⟨arr, clock, h1, h2⟩, h3⟩ := hm
  have hf := hk.find w key arr.toList m h2 hl h3
  have hg : (getObj b).run P w = .ok (.map arr clock) w := by simp [getObj, Sem.run, h1]
  have ha := atM_get m key 0
  simp only [Instr.lookup, Sem.run_bind, run_underlying hT, Result.andThen_ok, hg, hk.check w _ key hl, hf, Sem.run_pure]
  cases hat : atM m key 0 with
  | none => rw [hat] at ha; simp [← ha, hz]
  | some p => obtain ⟨i, v⟩ := p; rw [hat] at ha; simp [← ha]

theorem Qt.look {key : List Int} {zv V : Value} (i : Nat) (hT : c.P.underlying T = some (.map k e)) (hk : KT c.P k enc n) (hz : ∀ w, (zeroValue e).run c.P w = .ok zv w) (hx : ev E x = some (.map (some b))) (hy : ev E y = some V) (hV : V = enc key) (hi : L[i]? = some (mp b enc n m)) (hl : key.length = n) :
    Qt c E L (.lookup T x y true) ty (.tuple #[(getM m key).getD zv, .bool (getM m key).isSome]) := fun ok a w ha hs _ _ _ _ => by
  have h1 := run_lookM (w := w) hT hk hz (hs.at_ _ (List.mem_of_getElem? hi)) hl true
  subst hV
  simp [execOp, ha.ev hx, ha.ev hy, h1]

theorem Mx.one {ops : Array Oper} {T' : Env → List Sp → Prop} {seen : List Nat} {rest : List (Nat × Bool)} {K : List Sp} {V : Value} {sz j : Nat} {els : List (List Value)} {o' : Oper} (hi : ops[j]? = some o') (hd : ∀ d, o'.dst = some d → Nat.blt d c.n = true) (hs : Src c L V sz els) (h : V.oneCell' = true → Mx c ops T' seen ((j, true) :: rest) E K L) : Mx c ops T' seen ((j, true) :: rest) E K L :=
  ⟨o', hi, hd, fun ok a w ha hst => by
    obtain ⟨o, ho, _, hl⟩ := h (elt_one (hs ok w hst))
    rw [hi] at ho; cases ho
    exact hl ok a w ha hst⟩
theorem Qt.lookI {pm : List (List Int × Int)} {key : List Int} {V : Value} (i : Nat) (hT : c.P.underlying T = some (.map k e)) (hk : KT c.P k enc n) (hz : ∀ w, (zeroValue e).run c.P w = .ok (.int .i64 0) w) (hx : ev E x = some (.map (some b))) (hy : ev E y = some V) (hV : V = enc key)
    (hi : L[i]? = some (mp b enc n (pm.map fun p => (p.1, Value.int .i64 p.2)))) (hl : key.length = n) : Qt c E L (.lookup T x y true) ty (.tuple #[.int .i64 ((getM pm key).getD 0), .bool (getM pm key).isSome]) := by
  have := Qt.look (c := c) (E := E) (ty := ty) i hT hk hz hx hy hV hi hl
  rw [getM_map] at this
  cases h : getM pm key <;> rw [h] at this <;> exact this
theorem Qt.lookC {key : List Int} {zv V u : Value} {q : Bool} (i : Nat) (hT : c.P.underlying T = some (.map k e)) (hk : KT c.P k enc n) (hz : ∀ w, (zeroValue e).run c.P w = .ok zv w) (hx : ev E x = some (.map (some b))) (hy : ev E y = some V) (hV : V = enc key) (hi : L[i]? = some (mp b enc n m)) (hl : key.length = n)
    (hr : (getM m key).getD zv = u ∧ (getM m key).isSome = q) : Qt c E L (.lookup T x y true) ty (.tuple #[u, .bool q]) := by
  obtain ⟨rfl, rfl⟩ := hr
  exact Qt.look i hT hk hz hx hy hV hi hl

theorem run_updM {P : Program} {w : World} {key : List Int} {u : Value} (hT : P.underlying T = some (.map k e)) (hk : KT P k enc n) (hm : (mp b enc n m).holds w) (hl : key.length = n) :
    ∃ w', (Instr.mapUpdate T (.map (some b)) (enc key) u).run P w = .ok () w' ∧ Frame w [b] w' ∧ (mp b enc n (setM m key u)).holds w' := by
  obtain ⟨⟨arr, clock, h1, h2⟩, h3⟩ := hm
  have hb : b < w.heap.size := (Array.getElem?_eq_some_iff.1 h1).1
  have hf := hk.find w key arr.toList m h2 hl h3
  have hg : (getObj b).run P w = .ok (.map arr clock) w := by simp [getObj, Sem.run, h1]
  have hset : ∀ o, (setObj b o).run P w = .ok () { w with heap := w.heap.setIfInBounds b o } := fun o => by simp [setObj, Sem.run, h1]
  have hfr : ∀ o, Frame w [b] { w with heap := w.heap.setIfInBounds b o } := fun o => ⟨rfl, rfl, rfl, by simp, fun j _ hj => by
    have : b ≠ j := fun e => hj (by simp [e])
    simp [Array.getElem?_setIfInBounds_ne this]⟩
  have hnew : ∀ o : Obj, ({ w with heap := w.heap.setIfInBounds b o } : World).heap[b]? = some o := fun o => by simp [hb]
  have hlen : arr.size = m.length := by
    have := congrArg List.length h2
    simpa using this
  cases hat : atM m key 0 with
  | none =>
    have hs := atM_none (u := u) hat
    refine ⟨_, ?_, hfr (.map (arr.push { key := enc key, val := u, born := clock }) (clock + 1)), ⟨⟨_, _, hnew _, ?_⟩, setM_keys h3 hl⟩⟩
    · simp only [Instr.mapUpdate, Sem.run_bind, run_underlying hT, Result.andThen_ok, hg, hk.check w _ key hl, hf, hat, hset]
    · rw [hs]; simp [h2]
  | some p =>
    obtain ⟨j, v⟩ := p
    obtain ⟨q, hj, hq, hqk, hs⟩ := atM_some (u := u) hat
    have hjq : j = q := by omega
    subst hjq
    have hja : j < arr.size := by omega
    have hkey : arr[j].key = enc key := by
      have h4 : (arr.toList.map (fun e => (e.key, e.val)))[j]? = (m.map (fun p => (enc p.1, p.2)))[j]? := by rw [h2]
      rw [List.getElem?_map, List.getElem?_map, Array.getElem?_toList, Array.getElem?_eq_getElem hja, List.getElem?_eq_getElem hq] at h4
      rw [List.getElem?_eq_getElem hq] at hqk
      simp at h4 hqk
      rw [h4.1, hqk]
    have hst : (Instr.keyThatStays (((arr[j]?).map (·.key)).getD (enc key)) (enc key)).run P w = .ok (enc key) w := by
      rw [Array.getElem?_eq_getElem hja]
      simp [Instr.keyThatStays, hkey, hk.bits key hl]
    refine ⟨_, ?_, hfr (.map (arr.modify j fun e => { e with key := enc key, val := u }) clock), ⟨⟨_, _, hnew _, ?_⟩, setM_keys h3 hl⟩⟩
    · simp only [Instr.mapUpdate, Sem.run_bind, run_underlying hT, Result.andThen_ok, hg, hk.check w _ key hl, hf, hat, hst, hset]
    · rw [hs]
      apply List.ext_getElem?
      intro i
      have h4 : (arr.toList.map (fun e => (e.key, e.val)))[i]? = (m.map (fun p => (enc p.1, p.2)))[i]? := by rw [h2]
      simp only [List.getElem?_map, Array.getElem?_toList, Array.getElem?_modify, List.getElem?_set] at h4 ⊢
      by_cases hij : j = i
      · subst hij
        simp [hja, hq]
      · simp [hij, h4]

theorem Lo.mapUpd {key : List Int} {u V : Value} (i : Nat) (hT : c.P.underlying T = some (.map k e)) (hk : KT c.P k enc n) (hx : ev E x = some (.map (some b))) (hy : ev E y = some V) (hV : V = enc key) (hz : ev E z = some u) (hi : L[i]? = some (mp b enc n m)) (hl : key.length = n) :
    Lo c E L (.mapUpdate T x y z) ty fun _ L' => L' = L.set i (mp b enc n (setM m key u)) := fun _ a w ha hst d pos af g K Q hK => by
  obtain ⟨w', h1, h2, h3⟩ := run_updM (u := u) hT hk (hst.at_ _ (List.mem_of_getElem? hi)) hl
  subst hV
  exact wp_loud0 (w' := w') (by simp [execOp, ha.ev hx, ha.ev hy, ha.ev hz, h1]) (hK _ _ _ rfl (hst.set hi (by simpa [mp] using h2) h3 (by simp [mp])))
theorem Lo.mapUpdI {pm : List (List Int × Int)} {key : List Int} {u : Int} {V : Value} (i : Nat) (hT : c.P.underlying T = some (.map k e)) (hk : KT c.P k enc n) (hx : ev E x = some (.map (some b))) (hy : ev E y = some V) (hV : V = enc key) (hz : ev E z = some (.int .i64 u))
    (hi : L[i]? = some (mp b enc n (pm.map fun p => (p.1, Value.int .i64 p.2)))) (hl : key.length = n) :
    Lo c E L (.mapUpdate T x y z) ty fun _ L' => L' = L.set i (mp b enc n ((setM pm key u).map fun p => (p.1, Value.int .i64 p.2))) := by
  have := Lo.mapUpd (c := c) (E := E) (ty := ty) i hT hk hx hy hV hz hi hl
  rwa [setM_map (Value.int .i64)] at this
theorem Lo.insert {key : List Int} {u V : Value} (i : Nat) (hT : c.P.underlying T = some (.map k e)) (hk : KT c.P k enc n) (hx : ev E x = some (.map (some b))) (hy : ev E y = some V) (hV : V = enc key) (hz : ev E z = some u) (hi : L[i]? = some (mp b enc n m)) (hl : key.length = n) :
    Lo c E L (.insert T x y z) ty fun _ L' => L' = L.set i (mp b enc n (setM m key u)) := fun _ a w ha hst d pos af g K Q hK => by
  obtain ⟨w', h1, h2, h3⟩ := run_updM (u := u) hT hk (hst.at_ _ (List.mem_of_getElem? hi)) hl
  subst hV
  exact wp_loud0 (w' := w') (by simp [execOp, ha.ev hx, ha.ev hy, ha.ev hz, h1]) (hK _ _ _ rfl (hst.set hi (by simpa [mp] using h2) h3 (by simp [mp])))
end
end Go.LK
