/-
  The plain law of waits, further: how the document's answer is come by.
-/
import Derived.Test.YtnkhmbbnabejhaaWait0
namespace Go.LK.Wt
open Go Go.LK
section
variable {l x : List Pr} {c j o : Int} {k : Nat} {e : Pr}
theorem takeF {f : Pr → Bool} (hx : l[k]? = some e) : (l.take (k + 1)).filter f = (l.take k).filter f ++ (if f e then [e] else []) := by
  rw [List.take_add_one, hx, List.filter_append]
  by_cases h : f e <;> simp [h]
theorem without_next1 (hx : l[k]? = some e) (h : ¬ e.call = c) : without (l.take (k + 1)) c = without (l.take k) c ++ [e] := by
  unfold without; rw [takeF hx, if_pos (by simp [h])]
theorem without_next0 (hx : l[k]? = some e) (h : e.call = c) : without (l.take (k + 1)) c = without (l.take k) c := by
  unfold without; rw [takeF hx, if_neg (by simp [h])]; simp
theorem drop_next1 (hx : l[k]? = some e) (h : ¬ e.job = j) : drop (l.take (k + 1)) j = drop (l.take k) j ++ [e] := by
  unfold drop; rw [takeF hx, if_pos (by simp [h])]
theorem drop_next0 (hx : l[k]? = some e) (h : e.job = j) : drop (l.take (k + 1)) j = drop (l.take k) j := by
  unfold drop; rw [takeF hx, if_neg (by simp [h])]; simp
theorem ofJ_next1 (hx : l[k]? = some e) (h : e.job = j) : ofJ (l.take (k + 1)) j = ofJ (l.take k) j ++ [e.call] := by
  unfold ofJ; rw [takeF hx, if_pos (by simp [h])]; simp
theorem ofJ_next0 (hx : l[k]? = some e) (h : ¬ e.job = j) : ofJ (l.take (k + 1)) j = ofJ (l.take k) j := by
  unfold ofJ; rw [takeF hx, if_neg (by simp [h])]; simp
theorem drop_get (hx : l[k]? = some e) : l.drop k = e :: l.drop (k + 1) := by
  obtain ⟨hk, he⟩ := List.getElem?_eq_some_iff.1 hx
  rw [List.drop_eq_getElem_cons hk, he]
theorem job_next (h : jobOf l c = jobOf (l.drop k) c) (hx : l[k]? = some e) (hn : ¬ e.call = c) : jobOf l c = jobOf (l.drop (k + 1)) c := by
  rw [h, drop_get hx]; simp [jobOf, hn]
theorem job_hit (h : jobOf l c = jobOf (l.drop k) c) (hx : l[k]? = some e) (hn : e.call = c) : jobOf l c = some e.job := by
  rw [h, drop_get hx]; simp [jobOf, hn]
theorem job_miss (h : jobOf l c = jobOf (l.drop k) c) (hk : ¬ k < l.length) : jobOf l c = none := by
  rw [h, List.drop_eq_nil_of_le (by omega)]; rfl
def Ahead (l : List Pr) (c : Int) (k : Nat) : Prop := ∀ i e, i < k → l[i]? = some e → e.call < c
theorem Ahead.zero : Ahead l c 0 := fun i e h => by omega
theorem Ahead.next (h : Ahead l c k) (hx : l[k]? = some e) (hlt : e.call < c) : Ahead l c (k + 1) := fun i e' hi he => by
  rcases Nat.lt_or_ge i k with h1 | h1
  · exact h i e' h1 he
  · have : i = k := by omega
    subst this
    rw [hx] at he; cases he; exact hlt
theorem ins_place : ∀ {l : List Pr} {k : Nat}, Ahead l c k → k ≤ l.length → (∀ e, l[k]? = some e → ¬ e.call < c) → l.take k ++ [⟨c, j⟩] ++ l.drop k = ins l c j
  | [], k, _, hk, _ => by
    have : k = 0 := by simpa using hk
    subst this; rfl
  | p :: l, 0, _, _, hend => by
    have := hend p rfl
    simp [ins, this]
  | p :: l, k + 1, ha, hk, hend => by
    have h0 := ha 0 p (by omega) rfl
    have ih := ins_place (l := l) (k := k) (fun i e hi he => ha (i + 1) e (by omega) (by simpa using he)) (by simpa using hk) (fun e he => hend e (by simpa using he))
    simp only [ins, if_pos h0, List.take_succ_cons, List.drop_succ_cons, List.cons_append, ih]
theorem ins_len : (ins l c j).length = l.length + 1 := by
  induction l with
  | nil => rfl
  | cons p l ih => simp only [ins]; split <;> simp [ih]
theorem without_len : (without l c).length ≤ l.length := List.length_filter_le _ _
theorem drop_len : (drop l j).length ≤ l.length := List.length_filter_le _ _
theorem add_is (h : (jobOf l c).isSome = true) : add l c j = l := by rw [add, if_pos h]
theorem add_new (h : (jobOf l c).isSome = false) : add l c j = ins l c j := by rw [add, if_neg (by simp [h])]
theorem none_of (h : (jobOf l c).isSome = false) : jobOf l c = none := by
  cases hj : jobOf l c with
  | none => rfl
  | some q => rw [hj] at h; cases h
theorem some_of (h : (jobOf l c).isSome = true) : jobOf l c = some ((jobOf l c).getD 0) := by
  cases hj : jobOf l c with
  | none => rw [hj] at h; cases h
  | some q => rfl
/-! ### What one job does changes nothing of others -/
theorem ofJ_ins (h : j ≠ o) : ofJ (ins l c j) o = ofJ l o := by
  induction l with
  | nil => simp [ins, ofJ, h]
  | cons p l ih =>
    unfold ofJ at ih ⊢
    simp only [ins]
    split
    · rw [List.filter_cons, List.filter_cons]
      by_cases hp : p.job = o <;> simp [hp, ih]
    · rw [List.filter_cons, if_neg (by simp [h])]
theorem ofJ_without (hu : Jb.Up (calls l)) (h : jobOf l c ≠ some o) : ofJ (without l c) o = ofJ l o := by
  refine Jb.up_ext (up_ofJ (up_filter hu)) (up_ofJ hu) fun c' => ?_
  rw [mem_ofJ hu, mem_ofJ (l := without l c) (up_filter hu), jobOf_without]
  by_cases hc : c = c'
  · subst hc; simp [h]
  · simp [hc]
theorem ofJ_drop (h : j ≠ o) : ofJ (drop l j) o = ofJ l o := by
  unfold ofJ drop
  rw [List.filter_filter]
  congr 1
  refine List.filter_congr fun p _ => ?_
  by_cases hp : p.job = o
  · have : ¬ p.job = j := fun e => h (e.symm.trans hp)
    simp [hp]
    exact fun e => h e.symm
  · simp [hp]
theorem up_at {l : List Int} {i k : Nat} {a b : Int} (hu : Jb.Up l) (ha : l[i]? = some a) (hb : l[k]? = some b) (h : i < k) : a < b := by
  obtain ⟨h1, rfl⟩ := List.getElem?_eq_some_iff.1 ha
  obtain ⟨h2, rfl⟩ := List.getElem?_eq_some_iff.1 hb
  exact List.pairwise_iff_getElem.1 hu i k h1 h2 h
end
end Go.LK.Wt
