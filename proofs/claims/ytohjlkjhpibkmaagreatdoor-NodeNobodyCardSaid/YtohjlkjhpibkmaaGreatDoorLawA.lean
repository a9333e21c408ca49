/-
  Several texts in one: Law0, Law1, Law2, LawP.
-/
import Derived.Test.YtohjlkjhpibkmaaGreatDoorMono0
import Derived.ProofKit
import Derived.Deep.Slices
import Derived.Deep.Fields
import Derived.ChangeSame
import Derived.OpenShut
import Derived.HandedShaped
import Derived.Test.YtohjlkjhpibkmaaGreatDoorLk21
namespace Go.LK
open Go Go.ChangeShapes Go.WideShapes Go.RowKit Go.Deep

section
variable {H : Type} {enc : TypeId × Value → H} {P : Program}

theorem trodAll_stays {W W' : World} (hl : laidOutB P = true) (hb : Below W.heap.size W W') : ∀ {ts : List TypeId} {vs : List Value} {ds : List (DataW H)} {ps : List MemPlace},
    (∀ t ∈ ts, P.readableRec t = true ∧ t < P.types.size) → (∀ x ∈ ps, x.block < W.heap.size) → DataW.TrodAll enc P W 0 (fun _ => true) true ts vs ds ps →
    DataW.TrodAll enc P W' 0 (fun b => decide (b < W.heap.size)) true ts vs ds ps
  | [], [], [], _, _, _, h => h
  | [], _ :: _, _, _, _, _, h => by simp [DataW.TrodAll] at h
  | [], [], _ :: _, _, _, _, h => by simp [DataW.TrodAll] at h
  | _ :: _, [], _, _, _, _, h => by simp [DataW.TrodAll] at h
  | _ :: _, _ :: _, [], _, _, _, h => by simp [DataW.TrodAll] at h
  | t :: ts, v :: vs, d :: ds, ps, hr, hp, h => by
    obtain ⟨p, q, h1, h2, rfl⟩ := h
    exact ⟨p, q, Below.trod hl (hr t (by simp)).1 (hr t (by simp)).2 h1 hb (fun x hx => hp x (by simp [hx])), trodAll_stays hl hb (fun t' ht => hr t' (by simp [ht])) (fun x hx => hp x (by simp [hx])) h2, rfl⟩

theorem post_true {f : Func} {s : ChangeSpec} {W W' : World} {args : Array Value} {ds : List (DataW H)} {before : List MemPlace} {tb : TypeId} (hl : laidOutB P = true) (hW : DataW.Whole enc P f.params.toList s.vars false W args.toList ds [] before)
    (hfn : s.fn H (ds ++ []) = { results := [.lit (.bool true)], args := ds }) (hvars : s.vars = []) (hrt : f.resultTypes = #[tb]) (htb : P.underlying tb = some .bool) (hr : ∀ t ∈ f.params.toList, P.readableRec t = true ∧ t < P.types.size)
    (hb : Below W.heap.size W W') : s.post enc P f false true false false W args (.bool true) W' := by
  have hlt : ∀ p ∈ before, p.block < W.heap.size := fun p hp => hW.lt p hp
  obtain ⟨p, q, hA, hV, hpq, hz, hn⟩ := hW
  rw [hvars] at hV
  have hq : q = [] := by simpa [DataW.TrodVars] using hV
  subst hq
  have hpb : before = p := by simpa using hpq
  subst hpb
  refine ⟨ds, [], before, [], before, [], ⟨before, [], hA, by rw [hvars]; rfl, by simp, hz, hn⟩, ?_, ?_, ?_, ?_, fun h => by cases h⟩
  · rw [hfn, hrt]
    exact trodAll_mk1 (shut_bool htb true)
  · rw [hfn]
    exact trodAll_stays hl hb hr hlt hA
  · rw [hfn, hvars]
    rfl
  · exact World.keptBut_mono (fun p hp => ⟨hp, Or.inr (Or.inl hp)⟩) (hb.frame (· ∈ before))
end
section
variable {H : Type} {enc : TypeId × Value → H} {P : Program} {w : World} {base : Nat} {spare : Nat → Bool} {held : Bool}
end

section
variable {H : Type} {enc : TypeId × Value → H} {P : Program} {W : World}

end

theorem Tri.law {P : Program} {f : FuncId} {args : Array Value} {Ro : List Sp} (h : Tri P f args Ro [] (fun v L' => v = .bool true ∧ L' = [])) (W : World) (hro : ∀ A ∈ Ro, A.holds W) :
    Calls P f args W fun e W' => e = .returned (.bool true) ∧ Below W.heap.size W W' :=
  (h W (fun A hA => ⟨hro A hA, fun _ _ => by simp⟩) ⟨Frame.refl W _, by simp, by simp, by simp⟩).mono fun _ _ ⟨v, L', he, ⟨hv, _⟩, hs⟩ => ⟨by rw [he, hv], hs.fr.below⟩

def Ev.of (g : Nat → Int) : Ev := ⟨g 0, g 1, g 2, g 3, g 4, g 5, g 6⟩
end Go.LK

namespace Go.LK
open Go Go.ChangeShapes Go.WideShapes Go.RowKit Go.Deep

section
variable {H : Type} {enc : TypeId × Value → H} {P : Program} {W : World}

end
end Go.LK

namespace Go.LK
open Go
variable {H : Type} {enc : TypeId × Value → H}

/-- A row with a condition of its own on the first world (what its package variables hold); the contract is handed the world's shape, too. -/
theorem law_and_shaped {a : Assume} {C : Checked} {os : Os} {f : FuncId} {fn : Func} {s : ChangeSpec} {conds : List PathCond} {apart fresh handsOn again : Bool} {X : World → Array Value → Prop}
    (hX : ∀ (w w' : World) (args : Array Value), w.heap = w'.heap → X w args → X w' args)
    (own : ownKnob C.prog.godebug = none) (started : os.Started) (noInit : C.prog.inits.idxOf? f = none) (hfn : C.prog.funcs[f]? = some fn)
    (witness : ∃ (w : World) (tape : Tape) (i : Input), w.os = os ∧ (w.forCall tape i).Shaped C.prog ∧ i.vars = [] ∧ Input.okWide C.prog (w.forCall tape i) .any w.heap.size f i ∧
      ((s.pre enc C.prog fn conds apart (w.forCall tape i).memory i.args ∧ X (w.forCall tape i).memory i.args) ∧ sizedMet enc C.prog fn (OpenSpec.ofChange s) apart (w.forCall tape i).memory i.args) ∧ a.holds C.prog (lone (Frame.enter C.prog f i.args .normal) [] (w.forCall tape i)))
    (contract : ∀ (W : World) (base : Nat) (args : Array Value) (ds gs : List (DataW H)) (before : List MemPlace),
      (∀ (j : Nat) t v, fn.params[j]? = some t → args[j]? = some v → Value.okWide C.prog W .any base t v) →
      DataW.Whole enc C.prog fn.params.toList s.vars apart W args.toList ds gs before → X W args → W.ShapedOpen C.prog →
      Calls C.prog f args W fun e W' => ∃ v, e = .returned v ∧ s.post enc C.prog fn apart fresh handsOn again W args v W') :
    ReturnsInHanded a C os f .any (fun w args => (s.pre enc C.prog fn conds apart w args ∧ X w args) ∧ sizedMet enc C.prog fn (OpenSpec.ofChange s) apart w args) (s.post enc C.prog fn apart fresh handsOn again) := by
  refine returnsInHanded_of_calls own started noInit witness ?_
  intro w tape i _ hsh _ hok hpre hholds
  obtain ⟨_, _, _, fn', hfn', _, _, _, _, hval⟩ := hok
  have e : fn' = fn := Option.some.inj (hfn'.symm.trans hfn)
  subst e
  obtain ⟨⟨⟨ds, gs, before, hw, hc⟩, hx⟩, hz⟩ := hpre
  have hw' := DataW.Whole.of_heap (w' := w.forCall tape i) (by rfl) hw
  refine (contract (w.forCall tape i) w.heap.size i.args ds gs before hval hw' (hX _ _ _ (by rfl) hx) hsh).mono fun e W' ⟨v, he, hp⟩ => ?_
  subst he
  exact ChangeSpec.post_blind hp
end Go.LK

namespace Go.LK
def LP.I64 (n : Int) : Prop := -9223372036854775808 ≤ n ∧ n ≤ 9223372036854775807
def LP.I64s (l : List Int) : Prop := ∀ x ∈ l, LP.I64 x
end Go.LK
namespace Go.LK
open Go Go.RowKit Go.ChangeShapes Go.WideShapes Go.ChangeAt Go.Deep
/-- The cells cs read as data of type t. -/
def Rdb {H : Type} (enc : TypeId × Value → H) (P : Program) (W : World) (t : TypeId) (cs : List Value) : Prop :=
  ∃ (fuel : Nat) (x : DataW H × List MemPlace), DataW.trod enc P W 0 (fun _ => true) true fuel t cs = some x
section
variable {H : Type} {enc : TypeId × Value → H} {P : Program} {W : World} {t e : TypeId} {cs : List Value}
theorem Rdb.of {v : Value} {d : DataW H} {p : List MemPlace} (h : DataW.Trod enc P W 0 (fun _ => true) true t v d p) : Rdb enc P W t v.cells.toList := by
  obtain ⟨fuel, hf⟩ := h
  exact ⟨fuel, _, hf⟩
theorem Rdb.int (h : Rdb enc P W t cs) (ht : P.underlying t = some (.int .i64)) : ∃ q : Int, cs = [.int .i64 q] ∧ LP.I64 q := by
  obtain ⟨fuel, x, hf⟩ := h
  obtain ⟨q, hq, _, hw⟩ := DataW.trod_int ht hf
  exact ⟨q, hq, bounds_i64 hw⟩
theorem Rdb.u64 (h : Rdb enc P W t cs) (ht : P.underlying t = some (.int .u64)) : ∃ q : Nat, cs = [.int .u64 (q : Int)] ∧ q < 18446744073709551616 := by
  obtain ⟨fuel, x, hf⟩ := h
  obtain ⟨q, hq, _, hw⟩ := DataW.trod_int ht hf
  have h1 := bounds_u64 hw
  obtain ⟨n, rfl, hn⟩ : ∃ n : Nat, q = (Nat.cast n : Int) ∧ n < 18446744073709551616 := ⟨q.toNat, by omega, by omega⟩
  exact ⟨n, hq, hn⟩
theorem Rdb.bool (h : Rdb enc P W t cs) (ht : P.underlying t = some .bool) : ∃ b : Bool, cs = [.bool b] := by
  obtain ⟨fuel, x, hf⟩ := h
  obtain ⟨b, hb, _⟩ := DataW.trod_bool ht hf
  exact ⟨b, hb⟩
theorem Rdb.str (h : Rdb enc P W t cs) (ht : P.underlying t = some .string) : ∃ l : List UInt8, cs = [str l] := by
  obtain ⟨fuel, x, hf⟩ := h
  obtain ⟨s, hs, _⟩ := DataW.trod_string ht hf
  obtain ⟨⟨l⟩⟩ := s
  exact ⟨l, hs⟩
theorem Rdb.len {fs : Array Field} (h : Rdb enc P W t cs) (ht : P.underlying t = some (.struct fs)) : cs.length = P.cellsOf t := by
  obtain ⟨fuel, x, hf⟩ := h
  obtain ⟨_, _, _, _, hl, _⟩ := DataW.trod_struct ht hf
  exact hl
theorem Rdb.field {fs : Array Field} (h : Rdb enc P W t cs) (ht : P.underlying t = some (.struct fs)) (j : Nat) (f : Field) (hj : fs[j]? = some f) : Rdb enc P W f.type ((cs.drop f.offset).take (P.cellsOf f.type)) := by
  obtain ⟨fuel, x, hf⟩ := h
  obtain ⟨xs, n, _, _, _, hl, hat⟩ := DataW.trod_struct ht hf
  have hlt : j < fs.size := (Array.getElem?_eq_some_iff.1 hj).1
  exact ⟨n, xs[j]'(by omega), by rw [hat j f hj]; exact List.getElem?_eq_getElem (by omega)⟩
theorem Rdb.at {n : Nat} (h : Rdb enc P W t cs) (ht : P.underlying t = some (.array n e)) (j : Nat) (hj : j < n) : Rdb enc P W e ((cs.drop (j * P.cellsOf e)).take (P.cellsOf e)) := by
  obtain ⟨fuel, x, hf⟩ := h
  obtain ⟨xs, m, _, _, _, hl, hat⟩ := DataW.trod_array ht hf
  exact ⟨m, xs[j]'(by omega), by rw [hat j hj]; exact List.getElem?_eq_getElem (by omega)⟩
theorem cut_next {α : Type} {l x : List α} {off n m : Nat} (h : (l.drop off).take n = x) (hm : off + n = m) : l.drop off = x ++ l.drop m := by
  subst hm
  rw [← h, ← List.drop_drop, List.take_append_drop]
theorem cut_end {α : Type} {l : List α} {m : Nat} (h : l.length = m) : l.drop m = [] := List.drop_eq_nil_of_le (by omega)

/-- A slice of anything of s cells: its elements' cells, each of which reads again. -/
theorem Rdb.slice (h : Rdb enc P W t cs) (s : Nat) (hs0 : 0 < s) (ht : P.underlying t = some (.slice e)) (hC : P.cellsOf e = s) :
    ∃ (v : Value) (l : List (List Value)), cs = [v] ∧ Elt W v s l ∧ ∀ a ∈ l, Rdb enc P W e a := by
  obtain ⟨fuel, x, hf⟩ := h
  rcases open_slice ht hf with ⟨hcs, _⟩ | ⟨a, len, cap, m, n, D, Pl, hcs, _, hlc, hcm, hm, _, hi⟩
  · exact ⟨_, [], hcs, ⟨by simp, ⟨none, 0, rfl, by simp, by simp [maxLen]⟩, fun h => absurd rfl h, fun i e j u hi => by simp at hi⟩, by simp⟩
  · have hmc : m = cap := by simpa using hm
    subst hmc
    rw [hC] at hi
    have h1 : ∀ i, i < len → ∃ c : List Value, c.length = s ∧ (∀ j u, c[j]? = some u → W.cell? (a.add (i * s + j)) = some u) ∧ Rdb enc P W e c := fun i hil => by
      obtain ⟨c, hc, hx⟩ := hi i (by omega)
      obtain ⟨_, hl, hat⟩ := World.cells?_some hc
      refine ⟨c, hl, fun j u hj => ?_, n, _, hx⟩
      have hjl := (List.getElem?_eq_some_iff.1 hj).1
      have := hat j (by omega)
      rw [← Go.Deep.add_add, this, hj]
    let G : Nat → List Value := fun i => if h : i < len then Classical.choose (h1 i h) else []
    have hG : ∀ i, i < len → (G i).length = s ∧ (∀ j u, (G i)[j]? = some u → W.cell? (a.add (i * s + j)) = some u) ∧ Rdb enc P W e (G i) := fun i hil => by
      simp only [G, hil, dif_pos]; exact Classical.choose_spec (h1 i hil)
    have haddr : 0 < len → a = ⟨vblk (.slice (some a) len m), voff (.slice (some a) len m), none⟩ := fun h0 => by
      obtain ⟨h1, h2, _⟩ := hG 0 h0
      have h3 := h2 0 _ (List.getElem?_eq_getElem (by omega))
      simp only [Nat.zero_mul, Nat.add_zero, Addr.add, if_true] at h3
      obtain ⟨b, o, sp⟩ := a
      cases sp with
      | none => rfl
      | some q =>
        exfalso
        simp only [World.cell?] at h3
        split at h3 <;> simp at h3
    have hlen : ((List.range len).map G).length = len := by simp
    refine ⟨_, (List.range len).map G, hcs, ⟨?_, ⟨_, m, by rw [hlen], by rw [hlen]; exact hlc, hcm⟩, ?_, ?_⟩, ?_⟩
    · intro x hx
      obtain ⟨i, hi', rfl⟩ := List.mem_map.1 hx
      exact (hG i (List.mem_range.1 hi')).1
    · intro hne
      have h0 : 0 < len := by
        rcases Nat.eq_zero_or_pos len with h | h
        · subst h; exact absurd rfl hne
        · exact h
      exact ⟨m, by rw [hlen]; exact congrArg (fun z => Value.slice (some z) len m) (haddr h0)⟩
    · intro i e' j u hi hj
      rw [List.getElem?_map] at hi
      obtain ⟨i', hi', he'⟩ := Option.map_eq_some_iff.1 hi
      obtain ⟨hlt, hii⟩ := List.getElem?_eq_some_iff.1 hi'
      simp at hlt hii
      subst hii
      subst he'
      have h4 := (hG i hlt).2.1 j u hj
      rw [haddr (by omega), add_at] at h4
      rw [Nat.add_assoc, h4]
    · intro b hb
      obtain ⟨i, hi', rfl⟩ := List.mem_map.1 hb
      exact (hG i (List.mem_range.1 hi')).2.2
end
theorem lift_map {α β : Type} {f : α → β} {Q : α → Prop} : ∀ {l : List β}, (∀ b ∈ l, ∃ a, b = f a ∧ Q a) → ∃ l' : List α, l = l'.map f ∧ ∀ a ∈ l', Q a
  | [], _ => ⟨[], rfl, by simp⟩
  | b :: l, h => by
    obtain ⟨a, rfl, ha⟩ := h b (by simp)
    obtain ⟨l', rfl, hl⟩ := lift_map (l := l) fun b hb => h b (by simp [hb])
    exact ⟨a :: l', rfl, by simpa using ⟨ha, hl⟩⟩
section
variable {H : Type} {enc : TypeId × Value → H} {P : Program} {W : World} {t e : TypeId} {cs : List Value}
theorem Rdb.zs (h : Rdb enc P W t cs) (ht : P.underlying t = some (.slice e)) (he : P.underlying e = some (.int .i64)) (hC : P.cellsOf e = 1) : ∃ (v : Value) (l : List Int), cs = [v] ∧ Elt W v 1 (l.map encZ) ∧ ∀ x ∈ l, LP.I64 x := by
  obtain ⟨v, l, hv, hl, hr⟩ := h.slice 1 (by decide) ht hC
  obtain ⟨l', rfl, hl'⟩ := lift_map (f := encZ) (Q := LP.I64) fun b hb => (hr b hb).int he
  exact ⟨v, l', hv, hl, hl'⟩
theorem one_of {v u : Value} (hv : ∀ c, v ≠ .agg c) (h : v.cells.toList = [u]) : v = u := by
  cases v <;> first | exact absurd rfl (hv _) | simpa [Value.cells] using h
end
theorem noagg {v : Value} (h : ∃ a len cap, v = .slice a len cap) : ∀ c, v ≠ .agg c := by
  rintro c rfl
  obtain ⟨_, _, _, h⟩ := h
  cases h
end Go.LK
