/-
  Walks, printed by a program of mine (lk.py): each function meets its contract.
-/
import Derived.KernelRfl
import Derived.Test.YtnkhmbbnabejhaaGreatDoorDX1
import Derived.Test.YtnkhmbbnabejhaaGreatDoorWX1
import Derived.Test.YtnkhmbbnabejhaaGreatDoorWordsA
namespace Go.Proofs.YtnkhmbbnabejhaaGreatDoor
open Go Go.LK Go.Proofs.Tryz
set_option linter.unusedSimpArgs false

theorem s_Join (tv : Value) (ts : List (List UInt8)) (hne : ts ≠ []) (hn : ts.length ≤ 100000) (hl : (Lib.join ts [32]).length ≤ 100000000) : Tri prog 70 #[tv, str [32]] [rd tv 1 (ts.map encS)] [] (fun v L' => v = str (Lib.join ts [32]) ∧ L' = []) :=
  Tri.lib fun w hro => by
    have he : Elt w tv 1 (ts.map encS) := hro (rd tv 1 (ts.map encS)) (by simp)
    obtain ⟨cap, hv⟩ := he.addr (by simpa using hne)
    obtain ⟨A0, cap0, hv0, hle, _⟩ := he.form
    have hcells := he.cells
    have hcap : ts.length ≤ cap := by
      rw [hv] at hv0
      injection hv0 with h1 h2 h3
      rw [List.length_map] at hle
      omega
    clear he hv0 hle hro
    rw [List.length_map] at hv
    generalize vblk tv = b at hv hcells
    generalize voff tv = o at hv hcells
    subst hv
    have hc : ∀ (j : Nat) x, (ts.map fun t => (⟨t.toArray⟩ : ByteArray))[j]? = some x → w.cell? ⟨b, o + j, none⟩ = some (.string x) := fun j x hx => by
      rw [List.getElem?_map] at hx
      obtain ⟨t, ht, rfl⟩ := Option.map_eq_some_iff.1 hx
      have := hcells j (encS t) 0 (str t) (by rw [List.getElem?_map, ht]; rfl) rfl
      rwa [Nat.mul_one, Nat.add_zero] at this
    have hb : b < w.heap.size := by
      obtain ⟨t, ht⟩ := List.exists_mem_of_ne_nil ts hne
      obtain ⟨j, hj⟩ := List.mem_iff_getElem?.1 ht
      exact cell_lt (hc j ⟨t.toArray⟩ (by rw [List.getElem?_map, hj]; rfl))
    have hmap : (ts.map fun t => (⟨t.toArray⟩ : ByteArray)).map (·.data.toList) = ts := by
      rw [List.map_map]
      show ts.map (fun t => t) = ts
      simp
    have h := strings_Join b o cap (ts.map fun t => ⟨t.toArray⟩) ⟨[32].toArray⟩ w hc hb (by rw [List.length_map]; omega) (by rw [List.length_map]; exact hcap) (by rw [hmap]; exact Nat.le_trans hl (by decide))
    rw [hmap, List.length_map] at h
    exact h.mono fun e w' ⟨he, hw⟩ => ⟨he, Frame.of_below hw⟩

set_option maxRecDepth 100000 in
theorem w_Join (lv : Value) (l : List (List UInt8)) (hne : l ≠ []) (hn : l.length ≤ 1000) (hw : ∀ x ∈ l, x.length ≤ 90000) : Tri prog 46 #[lv] [rd lv 1 (l.map encS)] [] (fun v L' => v = str (Lib.join l [32]) ∧ L' = []) := by
 refine Tri.enter (args := [lv]) (body := _) 5 func46 rfl ntmps46 rfl ?_
 intro w0
 refine J.seq <| J.region <| O.a rfl rfl <| O.nil <| J.seq <| J.region <| O.m rfl rfl <| O.l (Lo.call [lv, str ([32])] (by exact call70) rfl (s_Join lv l hne (by omega) (by have h_ := Wd.join_le l 90000 hw; omega)) [] [] (by decide) rfl [] rfl (RoOk.ro 0 rfl [] rfl RoOk.nil)) rfl ?_
 rintro _ _ ⟨_, ⟨rfl, rfl⟩, rfl⟩
 refine O.a rfl rfl <| O.nil ?_
 exact J.ret (Fin.ret (rs := [.tmp 2]) rfl [_] ⟨rfl, trivial⟩ [] (by decide) [] rfl ⟨rfl, rfl⟩)

end Go.Proofs.YtnkhmbbnabejhaaGreatDoor
