/-
  From the walk of a law to its row: what comes in is opened to lists; the answer is true, nothing old has turned, so each argument reads behind the call as it read before.
  (Two blocks below are lemmas that the guide hands out to be copied: a slice of structs opened to its cells.)
-/
import Derived.Test.YtnkhmbbnabejhaaMono0
import Derived.ProofKit
import Derived.Deep.Slices
import Derived.Deep.Fields
import Derived.ChangeSame
import Derived.OpenShut
namespace Go.LK
open Go Go.ChangeShapes Go.WideShapes Go.RowKit Go.Deep

section
variable {H : Type} {enc : TypeId × Value → H} {P : Program}

theorem trodAll_stays {W W' : World} (hl : laidOutB P = true) (hb : Below W.heap.size W W') : ∀ {ts : List TypeId} {vs : List Value} {ds : List (DataW H)} {ps : List MemPlace},
    (∀ t ∈ ts, P.readableRec t = true ∧ t < P.types.size) → (∀ x ∈ ps, x.block < W.heap.size) → DataW.TrodAll enc P W 0 (fun _ => true) true ts vs ds ps →
    DataW.TrodAll enc P W' 0 (fun b => decide (b < W.heap.size)) true ts vs ds ps
  | [], [], [], _, _, _, h => h
  | [], _ :: _, _, _, _, _, h => by simp [DataW.TrodAll] at h
  | [], [], _ :: _, _, _, _, h => by simp [DataW.TrodAll] at h
  | _ :: _, [], _, _, _, _, h => by simp [DataW.TrodAll] at h
  | _ :: _, _ :: _, [], _, _, _, h => by simp [DataW.TrodAll] at h
  | t :: ts, v :: vs, d :: ds, ps, hr, hp, h => by
    obtain ⟨p, q, h1, h2, rfl⟩ := h
    exact ⟨p, q, Below.trod hl (hr t (by simp)).1 (hr t (by simp)).2 h1 hb (fun x hx => hp x (by simp [hx])), trodAll_stays hl hb (fun t' ht => hr t' (by simp [ht])) (fun x hx => hp x (by simp [hx])) h2, rfl⟩

theorem post_true {f : Func} {s : ChangeSpec} {W W' : World} {args : Array Value} {ds : List (DataW H)} {before : List MemPlace} {tb : TypeId} (hl : laidOutB P = true) (hW : DataW.Whole enc P f.params.toList s.vars false W args.toList ds [] before)
    (hfn : s.fn H (ds ++ []) = { results := [.lit (.bool true)], args := ds }) (hvars : s.vars = []) (hrt : f.resultTypes = #[tb]) (htb : P.underlying tb = some .bool) (hr : ∀ t ∈ f.params.toList, P.readableRec t = true ∧ t < P.types.size)
    (hb : Below W.heap.size W W') : s.post enc P f false true false false W args (.bool true) W' := by
  have hlt : ∀ p ∈ before, p.block < W.heap.size := fun p hp => hW.lt p hp
  obtain ⟨p, q, hA, hV, hpq, hz, hn⟩ := hW
  rw [hvars] at hV
  have hq : q = [] := by simpa [DataW.TrodVars] using hV
  subst hq
  have hpb : before = p := by simpa using hpq
  subst hpb
  refine ⟨ds, [], before, [], before, [], ⟨before, [], hA, by rw [hvars]; rfl, by simp, hz, hn⟩, ?_, ?_, ?_, ?_, fun h => by cases h⟩
  · rw [hfn, hrt]
    exact trodAll_mk1 (shut_bool htb true)
  · rw [hfn]
    exact trodAll_stays hl hb hr hlt hA
  · rw [hfn, hvars]
    rfl
  · exact World.keptBut_mono (fun p hp => ⟨hp, Or.inr (Or.inl hp)⟩) (hb.frame (· ∈ before))
end
section
variable {H : Type} {enc : TypeId × Value → H} {P : Program} {w : World} {base : Nat} {spare : Nat → Bool} {held : Bool}
theorem open_slice_fields {t e : TypeId} {fs : Array Field} {fuel : Nat} {cs : List Value} {x : DataW H × List MemPlace} (ht : P.underlying t = some (.slice e)) (he : P.underlying e = some (.struct fs))
    (hone : oneCellFields P fs = true) (hC : P.cellsOf e = fs.size) (h : DataW.trod enc P w base spare held fuel t cs = some x) :
    (cs = [.slice none 0 0] ∧ x = (.nil, [])) ∨
    ∃ (a : Addr) (len cap m : Nat) (D : Nat → DataW H) (Pl : Nat → List MemPlace), cs = [.slice (some a) len cap] ∧ base ≤ a.block ∧ len ≤ cap ∧ cap ≤ maxLen ∧ m = (if spare a.block then cap else len) ∧
      x = (.slice ((List.range len).map D) ((List.range (m - len)).map fun j => D (len + j)), MemPlace.row a (m * fs.size) ++ (List.range m).flatMap Pl) ∧
      ∀ i, i < m → ∃ (ys : List (DataW H × List MemPlace)) (n : Nat), D i = .agg (ys.map (·.1)) ∧ Pl i = ys.flatMap (·.2) ∧ ys.length = fs.size ∧
        ∀ (j : Nat) (f : Field), fs[j]? = some f → ∃ (v : Value) (y : DataW H × List MemPlace), w.cell? (a.add (i * fs.size + j)) = some v ∧ ys[j]? = some y ∧ DataW.trod enc P w base spare held n f.type [v] = some y := by
  rcases open_slice ht h with h0 | ⟨a, len, cap, m, n, D, Pl, hcs, hb, hl, hm, hmm, hx, hi⟩
  · exact .inl h0
  · refine .inr ⟨a, len, cap, m, D, Pl, hcs, hb, hl, hm, hmm, by rw [hC] at hx; exact hx, fun i him => ?_⟩
    obtain ⟨cs', hc, ht'⟩ := hi i him
    rw [hC] at hc
    obtain ⟨ys, n', hn', hy, hlen, hyl, hf⟩ := DataW.trod_struct he ht'
    obtain ⟨_, hcl, hat⟩ := World.cells?_some hc
    simp only [Prod.mk.injEq] at hy
    refine ⟨ys, n', hy.1, hy.2, hyl, fun j f hj => ?_⟩
    obtain ⟨ho, hk⟩ := hone_of hone j f hj
    have hjl : j < fs.size := (Array.getElem?_eq_some_iff.1 hj).1
    have hcell := hat j hjl
    have hv : cs'[j]? = some (cs'[j]'(by omega)) := List.getElem?_eq_getElem (by omega)
    have h1 := hf j f hj
    rw [ho, hk] at h1
    have hone' : (cs'.drop j).take 1 = [cs'[j]'(by omega)] := by
      rw [List.drop_eq_getElem_cons (by omega)]
      rfl
    rw [hone'] at h1
    have hys : ys[j]? = some (ys[j]'(by omega)) := List.getElem?_eq_getElem (by omega)
    refine ⟨_, _, ?_, hys, h1.trans hys⟩
    rw [← Go.Deep.add_add, hcell, hv]
end


section
variable {H : Type} {enc : TypeId × Value → H} {P : Program} {W : World}

/-- A slice of structs of integers, opened: it reads as a list of records. -/
theorem open_recs {α : Type} (f : α → List Value) (mk : (Nat → Int) → α) (s : Nat) (hs0 : 0 < s) {t e : TypeId} {fs : Array Field} {v : Value} {d : DataW H} {p : List MemPlace} {base : Nat} (ht : P.underlying t = some (.slice e)) (he : P.underlying e = some (.struct fs)) (hone : oneCellFields P fs = true) (hC : P.cellsOf e = fs.size)
    (hsz : fs.size = s) (hint : ∀ (j : Nat) (g : Field), fs[j]? = some g → P.underlying g.type = some (.int .i64)) (hmk : ∀ g, f (mk g) = (List.range s).map fun j => Value.int .i64 (g j)) (hv : Value.okWide P W .any base t v) (h : DataW.Trod enc P W 0 (fun _ => true) true t v d p) :
    ∃ l : List α, Elt W v s (l.map f) ∧ ∀ a ∈ l, ∃ g : Nat → Int, a = mk g ∧ ∀ j, j < s → -9223372036854775808 ≤ g j ∧ g j ≤ 9223372036854775807 := by
  obtain ⟨A, len, cap, rfl⟩ := okWide_slice ht hv
  obtain ⟨fuel, hf⟩ := h
  rcases open_slice_fields ht he hone hC hf with ⟨hcs, _⟩ | ⟨a, len', cap', m, D, Pl, hcs, _, hlc, hcm, hm, _, hi⟩
  · have hcs' : Value.slice A len cap = .slice none 0 0 := by simpa [Value.cells] using hcs
    rw [hcs']
    exact ⟨[], ⟨by simp, ⟨none, 0, rfl, by simp, by simp [maxLen]⟩, fun h => absurd rfl h, fun i e j u hi => by simp at hi⟩, by simp⟩
  · have hcs' : Value.slice A len cap = .slice (some a) len' cap' := by simpa [Value.cells] using hcs
    rw [hcs']
    have hmc : m = cap' := by simpa using hm
    subst hmc
    have h1 : ∀ i, i < len' → ∃ g : Nat → Int, ∀ j, j < s → W.cell? (a.add (i * s + j)) = some (.int .i64 (g j)) ∧ -9223372036854775808 ≤ g j ∧ g j ≤ 9223372036854775807 := fun i hil => by
      obtain ⟨ys, n, _, _, _, hj⟩ := hi i (by omega)
      have h2 : ∀ j, j < s → ∃ q : Int, W.cell? (a.add (i * s + j)) = some (.int .i64 q) ∧ -9223372036854775808 ≤ q ∧ q ≤ 9223372036854775807 := fun j hjs => by
        obtain ⟨w, y, hcell, _, ht'⟩ := hj j fs[j] (Array.getElem?_eq_getElem (by omega))
        obtain ⟨q, hq, _, hwf⟩ := DataW.trod_int (hint j fs[j] (Array.getElem?_eq_getElem (by omega))) ht'
        rw [hsz] at hcell
        refine ⟨q, by rw [hcell]; simpa using hq, ?_⟩
        exact bounds_i64 hwf
      exact ⟨fun j => if h : j < s then Classical.choose (h2 j h) else 0, fun j hjs => by simpa [hjs] using Classical.choose_spec (h2 j hjs)⟩
    let G : Nat → Nat → Int := fun i => if h : i < len' then Classical.choose (h1 i h) else fun _ => 0
    have hG : ∀ i, i < len' → ∀ j, j < s → W.cell? (a.add (i * s + j)) = some (.int .i64 (G i j)) ∧ -9223372036854775808 ≤ G i j ∧ G i j ≤ 9223372036854775807 := fun i hil => by
      simp only [G, hil, dif_pos]; exact Classical.choose_spec (h1 i hil)
    have haddr : 0 < len' → a = ⟨vblk (.slice (some a) len' m), voff (.slice (some a) len' m), none⟩ := fun h0 => by
      have h2 := (hG 0 h0 0 hs0).1
      simp only [Nat.zero_mul, Nat.add_zero, Addr.add, if_true] at h2
      obtain ⟨b, o, sp⟩ := a
      cases sp with
      | none => rfl
      | some q =>
        exfalso
        simp only [World.cell?] at h2
        split at h2 <;> simp at h2
    have hlen : (((List.range len').map fun i => mk (G i)).map f).length = len' := by simp
    refine ⟨(List.range len').map fun i => mk (G i), ⟨?_, ⟨_, m, by rw [hlen], by rw [hlen]; exact hlc, hcm⟩, ?_, ?_⟩, ?_⟩
    · intro x hx
      simp only [List.mem_map] at hx
      obtain ⟨_, ⟨i, _, rfl⟩, rfl⟩ := hx
      rw [hmk]; simp
    · intro hne
      have h0 : 0 < len' := by
        rcases Nat.eq_zero_or_pos len' with h | h
        · subst h; exact absurd rfl hne
        · exact h
      exact ⟨m, by rw [hlen]; exact congrArg (fun z => Value.slice (some z) len' m) (haddr h0)⟩
    · intro i e' j u hi hj
      rw [List.map_map, List.getElem?_map] at hi
      obtain ⟨i', hi', he'⟩ := Option.map_eq_some_iff.1 hi
      obtain ⟨hlt, hii⟩ := List.getElem?_eq_some_iff.1 hi'
      simp at hlt hii
      subst hii
      have h3 : e' = (List.range s).map fun j => Value.int .i64 (G i j) := by rw [← he', ← hmk]; rfl
      rw [h3, List.getElem?_map] at hj
      obtain ⟨j', hj', hju⟩ := Option.map_eq_some_iff.1 hj
      obtain ⟨hjlt, hjj⟩ := List.getElem?_eq_some_iff.1 hj'
      simp at hjlt hjj
      subst hjj
      have h4 := (hG i hlt j hjlt).1
      rw [haddr (by omega), add_at] at h4
      rw [Nat.add_assoc, h4, ← hju]
    · intro b hb
      simp only [List.mem_map, List.mem_range] at hb
      obtain ⟨i, hil, rfl⟩ := hb
      exact ⟨G i, rfl, fun j hj => (hG i hil j hj).2⟩
end

theorem Tri.law {P : Program} {f : FuncId} {args : Array Value} {Ro : List Sp} (h : Tri P f args Ro [] (fun v L' => v = .bool true ∧ L' = [])) (W : World) (hro : ∀ A ∈ Ro, A.holds W) :
    Calls P f args W fun e W' => e = .returned (.bool true) ∧ Below W.heap.size W W' :=
  (h W (fun A hA => ⟨hro A hA, fun _ _ => by simp⟩) ⟨Frame.refl W _, by simp, by simp, by simp⟩).mono fun _ _ ⟨v, L', he, ⟨hv, _⟩, hs⟩ => ⟨by rw [he, hv], hs.fr.below⟩

def Ev.of (g : Nat → Int) : Ev := ⟨g 0, g 1, g 2, g 3, g 4, g 5, g 6⟩
theorem Ev.of_cells (g : Nat → Int) : Ev.cells (Ev.of g) = (List.range 7).map fun j => Value.int .i64 (g j) := rfl
end Go.LK
