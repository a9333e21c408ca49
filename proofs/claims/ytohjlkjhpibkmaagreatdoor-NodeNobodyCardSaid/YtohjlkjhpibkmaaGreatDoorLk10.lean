/-
  Maps whose keys are integers, or structs of integers: a block that reads as a list of pairs.
-/
import Derived.Test.YtohjlkjhpibkmaaGreatDoorLk9
import Derived.MapKept
import Derived.Carry
namespace Go.LK
open Go Go.RowKit

section
variable {α : Type}
def getM : List (List Int × α) → List Int → Option α
  | [], _ => none
  | p :: m, k => if p.1 = k then some p.2 else getM m k
def atM : List (List Int × α) → List Int → Nat → Option (Nat × α)
  | [], _, _ => none
  | p :: m, k, i => if p.1 = k then some (i, p.2) else atM m k (i + 1)
theorem atM_get (m : List (List Int × α)) (k : List Int) : ∀ i, (atM m k i).map (·.2) = getM m k := by
  induction m with
  | nil => intro i; rfl
  | cons p m ih =>
    intro i
    simp only [atM, getM]
    split
    · rfl
    · exact ih (i + 1)
end

/-- What the model does with a key of type t that is laid as 'enc'. -/
structure KT (P : Program) (t : TypeId) (enc : List Int → Value) (n : Nat) : Prop where
  check : ∀ (w : World) (em : Bool) (k : List Int), k.length = n → (Instr.checkKey em 10000 t (enc k)).run P w = .ok () w
  find : ∀ (w : World) (k : List Int) (es : List MapEntry) (m : List (List Int × Value)), es.map (fun e => (e.key, e.val)) = m.map (fun p => (enc p.1, p.2)) → k.length = n → (∀ p ∈ m, p.1.length = n) →
    (Instr.findKey t (enc k) es).run P w = .ok (atM m k 0) w
  bits : ∀ k, k.length = n → Instr.sameBits 10000 (enc k) (enc k) = true

def encI : List Int → Value
  | [a] => .int .i64 a
  | _ => .int .i64 0
def encR (k : List Int) : Value := .agg (intVals k).toArray

theorem len1 {k : List Int} (h : k.length = 1) : ∃ a, k = [a] := by
  match k, h with
  | [a], _ => exact ⟨a, rfl⟩

theorem KT.int {P : Program} {t : TypeId} (ht : P.underlying t = some (.int .i64)) : KT P t encI 1 where
  check w em k hk := by
    obtain ⟨a, rfl⟩ := len1 hk
    unfold Instr.checkKey
    simp [run_underlying ht, Result.andThen, encI]
  find w k es m he hk hm := by
    obtain ⟨a, rfl⟩ := len1 hk
    have key : ∀ (es : List MapEntry) (m : List (List Int × Value)) (i : Nat), es.map (fun e => (e.key, e.val)) = m.map (fun p => (encI p.1, p.2)) → (∀ p ∈ m, p.1.length = 1) → Instr.findNow (.int .i64) (.int .i64 a) es i = some (atM m [a] i) := by
      intro es
      induction es with
      | nil =>
        intro m i he _
        have : m = [] := by simpa using he.symm
        subst this; rfl
      | cons e es ih =>
        intro m i he hm
        cases m with
        | nil => simp at he
        | cons p m =>
          simp only [List.map_cons, List.cons.injEq, Prod.mk.injEq] at he
          obtain ⟨⟨h1, h2⟩, h3⟩ := he
          obtain ⟨b, hb⟩ := len1 (hm p (by simp))
          simp only [Instr.findNow, h1, hb, encI, Instr.sameNow, if_true, atM]
          by_cases hab : a = b
          · subst hab; simp [h2]
          · have h4 : (a == b) = false := by simpa using hab
            have h5 : ¬ [b] = [a] := by simpa using fun e => hab e.symm
            rw [h4, if_neg h5]
            exact ih m (i + 1) h3 fun q hq => hm q (by simp [hq])
    have h1 := key es m 0 he hm
    simp only [Instr.findKey, Sem.run_bind, run_underlying ht, Result.andThen_ok, encI, h1, Sem.run_pure]
  bits k hk := by
    obtain ⟨a, rfl⟩ := len1 hk
    simp [encI, Instr.sameBits]

theorem run_checkFields {P : Program} {w : World} {em : Bool} {d : Nat} (as : List Int) : ∀ (fs : List Field) (i : Nat), FInt P i fs → i + fs.length = as.length →
    (forIn (m := Sem) fs PUnit.unit fun f (_ : PUnit) => if f.name ≠ "_" then (part f.type (intVals as).toArray f.offset >>= fun x => Instr.checkKey em (d + 1) f.type x >>= fun _ => pure (ForInStep.yield PUnit.unit)) else pure (ForInStep.yield PUnit.unit)).run P w = .ok PUnit.unit w
  | [], i, _, _ => by simp
  | f :: fs, i, hf, ha => by
    obtain ⟨ho, hn, hu, hr⟩ := hf
    have ih := run_checkFields (P := P) (w := w) (em := em) (d := d) as fs (i + 1) hr (by simp at ha; omega)
    have hla : i < as.length := by simp at ha; omega
    have hn' : ¬ f.name = "_" := by simpa using hn
    have hag : ∀ w, (isAgg f.type).run P w = .ok false w := fun w => by simp [isAgg, run_underlying hu]
    have pa : (part f.type (intVals as).toArray f.offset).run P w = .ok (.int .i64 as[i]) w := by simp [part, hag, ho, intVals, hla]
    have hc : (Instr.checkKey em (d + 1) f.type (.int .i64 as[i])).run P w = .ok () w := by
      unfold Instr.checkKey
      simp [run_underlying hu, Result.andThen]
    rw [List.forIn_cons]
    simp only [ne_eq, hn', not_false_eq_true, if_true, Sem.run_bind, pa, Result.andThen_ok, hc, Sem.run_pure, ih]

theorem KT.str {P : Program} {t : TypeId} {fs : Array Field} (ht : P.underlying t = some (.struct fs)) (hp : P.stoodInHeld t = false) (hf : FInt P 0 fs.toList) : KT P t encR fs.size where
  check w em k hk := by
    have h := run_checkFields (P := P) (w := w) (em := em) (d := 9998) k fs.toList 0 hf (by simpa using hk.symm)
    unfold Instr.checkKey
    simp only [Sem.run_bind, run_underlying ht, Result.andThen_ok, encR]
    rw [← Array.forIn_toList]
    exact (congrArg (fun r : Result PUnit => r.andThen fun a w' => (pure () : Sem Unit).run P w') h).trans rfl
  find w k es m he hk hm := by
    have asking : ∀ (es : List MapEntry) (m : List (List Int × Value)) (i : Nat), es.map (fun e => (e.key, e.val)) = m.map (fun p => (encR p.1, p.2)) → (∀ p ∈ m, p.1.length = fs.size) → (Instr.findAsking t (encR k) es i).run P w = .ok (atM m k i) w := by
      intro es
      induction es with
      | nil =>
        intro m i he _
        have : m = [] := by simpa using he.symm
        subst this; rfl
      | cons e es ih =>
        intro m i he hm
        cases m with
        | nil => simp at he
        | cons p m =>
          simp only [List.map_cons, List.cons.injEq, Prod.mk.injEq] at he
          obtain ⟨⟨h1, h2⟩, h3⟩ := he
          have h4 := run_eqI k p.1 ht hp hf hk (hm p (by simp)) w
          have h5 : (Op.equal t (encR k) (encR p.1)).run P w = .ok (decide (k = p.1)) w := h4
          simp only [Instr.findAsking, h1, Sem.run_bind, h5, Result.andThen_ok, atM, Sem.run_ite]
          by_cases hkp : k = p.1
          · subst hkp; simp [h2]
          · have h6 : ¬ p.1 = k := fun e => hkp e.symm
            simp only [hkp, h6, decide_false, if_false, Bool.false_eq_true]
            exact ih m (i + 1) h3 fun q hq => hm q (by simp [hq])
    cases es with
    | nil =>
      have : m = [] := by simpa using he.symm
      subst this
      simp [Instr.findKey, run_underlying ht, Result.andThen, Instr.findNow, atM]
    | cons e es =>
      cases m with
      | nil => simp at he
      | cons p m =>
        have h1 : Instr.findNow (.struct fs) (encR k) (e :: es) 0 = none := by simp [Instr.findNow, Instr.sameNow]
        simp only [Instr.findKey, Sem.run_bind, run_underlying ht, Result.andThen_ok, h1]
        exact asking _ _ 0 he hm
  bits k hk := by
    simp only [encR, Instr.sameBits, intVals]
    simp [List.all_map, List.zip_map', Function.comp_def]
    intro a _
    simp [Instr.sameBits]

/-- A map of the call's own. -/
def mp (b : Nat) (enc : List Int → Value) (n : Nat) (m : List (List Int × Value)) : Sp where
  foot := [b]
  holds w := (∃ arr clock, w.heap[b]? = some (.map arr clock) ∧ arr.toList.map (fun e => (e.key, e.val)) = m.map (fun p => (enc p.1, p.2))) ∧ ∀ p ∈ m, p.1.length = n
  lt w h k hk := by
    obtain ⟨⟨arr, clock, h1, _⟩, _⟩ := h
    simp at hk; subst hk
    exact (Array.getElem?_eq_some_iff.1 h1).1
  loc w w' hw h := by
    obtain ⟨⟨arr, clock, h1, h2⟩, h3⟩ := h
    exact ⟨⟨arr, clock, by rw [hw b (by simp)]; exact h1, h2⟩, h3⟩

section
variable {c : Cx} {E : Env} {L : List Sp} {ty T k e : TypeId} {x y z : Operand} {b n : Nat} {enc : List Int → Value} {m : List (List Int × Value)}

theorem Lo.makeMap (enc : List Int → Value) (n : Nat) : Lo c E L (.makeMap T none) ty fun v L' => ∃ b, v = .map (some b) ∧ L' = mp b enc n [] :: L := fun _ a w _ hs d pos af g K Q hK =>
  wp_loud (v := .map (some w.heap.size)) (w' := w.alloc (.map #[] 0)) (by simp [execOp, run_makeMap])
    (hK _ _ _ ⟨_, rfl, rfl⟩ (hs.add (frame_alloc w _) ⟨⟨#[], 0, heap_alloc_new w _, rfl⟩, by simp⟩ (by simp [mp])))

theorem run_lookM {P : Program} {w : World} {key : List Int} {zv : Value} (hT : P.underlying T = some (.map k e)) (hk : KT P k enc n) (hz : ∀ w, (zeroValue e).run P w = .ok zv w) (hm : (mp b enc n m).holds w) (hl : key.length = n) (ok : Bool) :
    (Instr.lookup T (.map (some b)) (enc key) ok).run P w = .ok (if ok then .tuple #[(getM m key).getD zv, .bool (getM m key).isSome] else (getM m key).getD zv) w := by
  obtain ⟨⟨arr, clock, h1, h2⟩, h3⟩ := hm
  have hf := hk.find w key arr.toList m h2 hl h3
  have hg : (getObj b).run P w = .ok (.map arr clock) w := by simp [getObj, Sem.run, h1]
  have ha := atM_get m key 0
  simp only [Instr.lookup, Sem.run_bind, run_underlying hT, Result.andThen_ok, hg, hk.check w _ key hl, hf, Sem.run_pure]
  cases hat : atM m key 0 with
  | none => rw [hat] at ha; simp [← ha, hz]
  | some p => obtain ⟨i, v⟩ := p; rw [hat] at ha; simp [← ha]

theorem Qt.look {key : List Int} {zv V : Value} (i : Nat) (hT : c.P.underlying T = some (.map k e)) (hk : KT c.P k enc n) (hz : ∀ w, (zeroValue e).run c.P w = .ok zv w) (hx : ev E x = some (.map (some b))) (hy : ev E y = some V) (hV : V = enc key) (hi : L[i]? = some (mp b enc n m)) (hl : key.length = n) :
    Qt c E L (.lookup T x y true) ty (.tuple #[(getM m key).getD zv, .bool (getM m key).isSome]) := fun ok a w ha hs _ _ _ _ => by
  have h1 := run_lookM (w := w) hT hk hz (hs.at_ _ (List.mem_of_getElem? hi)) hl true
  subst hV
  simp [execOp, ha.ev hx, ha.ev hy, h1]

theorem Mx.one {ops : Array Oper} {T' : Env → List Sp → Prop} {seen : List Nat} {rest : List (Nat × Bool)} {K : List Sp} {V : Value} {sz j : Nat} {els : List (List Value)} {o' : Oper} (hi : ops[j]? = some o') (hd : ∀ d, o'.dst = some d → Nat.blt d c.n = true) (hs : Src c L V sz els) (h : V.oneCell' = true → Mx c ops T' seen ((j, true) :: rest) E K L) : Mx c ops T' seen ((j, true) :: rest) E K L :=
  ⟨o', hi, hd, fun ok a w ha hst => by
    obtain ⟨o, ho, _, hl⟩ := h (elt_one (hs ok w hst))
    rw [hi] at ho; cases ho
    exact hl ok a w ha hst⟩

end
end Go.LK
