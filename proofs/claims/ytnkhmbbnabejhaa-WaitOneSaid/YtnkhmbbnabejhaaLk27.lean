/-
  Bundles: atoms whose number is not known, as one atom; and what may be read, likewise.
-/
import Derived.Test.YtnkhmbbnabejhaaLk26
namespace Go.LK
open Go Go.RowKit
/-- Several atoms of the call's own, pairwise apart. -/
def bun (As : List Sp) : Sp where
  foot := feet As
  holds w := (∀ A ∈ As, A.holds w) ∧ As.Pairwise Dj
  lt w h k hk := by
    obtain ⟨A, hA, hk⟩ := mem_feet.1 hk
    exact A.lt w (h.1 A hA) k hk
  loc w w' h hh := ⟨fun A hA => A.loc w w' (fun k hk => h k (mem_feet.2 ⟨A, hA, hk⟩)) (hh.1 A hA), hh.2⟩
/-- Several atoms that may be read. -/
def ros (As : List Sp) : Sp where
  foot := feet As
  holds w := ∀ A ∈ As, A.holds w
  lt w h k hk := by
    obtain ⟨A, hA, hk⟩ := mem_feet.1 hk
    exact A.lt w (h A hA) k hk
  loc w w' h hh := fun A hA => A.loc w w' (fun k hk => h k (mem_feet.2 ⟨A, hA, hk⟩)) (hh A hA)
theorem feet_bun {As R : List Sp} : feet (bun As :: R) = feet (As ++ R) := by rw [feet_cons, feet_append]; rfl
theorem dj_bun {As : List Sp} {B : Sp} : Dj (bun As) B ↔ ∀ A ∈ As, Dj A B := by
  constructor
  · intro h A hA k hk hk'
    exact h k (mem_feet.2 ⟨A, hA, hk⟩) hk'
  · intro h k hk hk'
    obtain ⟨A, hA, hk⟩ := mem_feet.1 hk
    exact h A hA k hk hk'
theorem St.bun_iff {w0 w : World} {M : List Nat} {As R : List Sp} : St w0 M (bun As :: R) w ↔ St w0 M (As ++ R) w := by
  constructor
  · intro h
    have h1 := h.at_ (bun As) (by simp)
    have h2 := List.pairwise_cons.1 h.nd
    refine ⟨h.fr, fun A hA => ?_, List.pairwise_append.2 ⟨h1.2, h2.2, fun A hA B hB => dj_bun.1 (h2.1 B hB) A hA⟩, fun k hk => h.mine k (by rw [feet_bun]; exact hk)⟩
    rcases List.mem_append.1 hA with hA | hA
    · exact h1.1 A hA
    · exact h.at_ A (by simp [hA])
  · intro h
    have h2 := List.pairwise_append.1 h.nd
    refine ⟨h.fr, fun A hA => ?_, List.pairwise_cons.2 ⟨fun B hB => dj_bun.2 fun A hA => h2.2.2 A hA B hB, h2.2.1⟩, fun k hk => h.mine k (by rw [feet_bun] at hk; exact hk)⟩
    rcases List.mem_cons.1 hA with rfl | hA
    · exact ⟨fun B hB => h.at_ B (by simp [hB]), h2.1⟩
    · exact h.at_ A (by simp [hA])
/-- The atoms, said in other words. -/
def Re (L L' : List Sp) : Prop := ∀ w0 M w, St w0 M L w → St w0 M L' w
section
variable {L L' R As As1 As2 : List Sp} {A B : Sp}
theorem Re.refl (L : List Sp) : Re L L := fun _ _ _ h => h
theorem Re.trans {L1 L2 L3 : List Sp} (h : Re L1 L2) (h' : Re L2 L3) : Re L1 L3 := fun w0 M w hs => h' w0 M w (h w0 M w hs)
theorem Re.perm (h : L.Perm L') : Re L L' := fun _ _ _ hs => hs.perm h
theorem Re.eq (h : L = L') : Re L L' := h ▸ Re.refl L
/-- Some of the atoms, in another order; the others are let go. -/
theorem Re.sel (is : List Nat) (hn : is.Nodup) (h : LK.sel L is = L') : Re L L' := fun _ _ _ hs => h ▸ hs.sel hn
theorem Re.new : Re R (bun [] :: R) := fun _ _ _ hs => St.bun_iff.2 hs
theorem Re.drop : Re (bun [] :: R) R := fun _ _ _ hs => St.bun_iff.1 hs
/-- One more. -/
theorem Re.into : Re (B :: bun As :: R) (bun (As ++ [B]) :: R) := fun w0 M w hs => by
  have h1 : St w0 M (bun As :: B :: R) w := hs.perm (List.Perm.swap _ _ _)
  have h2 := St.bun_iff.1 h1
  refine St.bun_iff.2 ?_
  rwa [List.append_assoc]
/-- One is taken out. -/
theorem Re.out (h : As = As1 ++ B :: As2) : Re (bun As :: R) (B :: bun (As1 ++ As2) :: R) := fun w0 M w hs => by
  subst h
  have h2 := St.bun_iff.1 hs
  have h3 : St w0 M (B :: (As1 ++ As2 ++ R)) w := h2.perm (by
    rw [List.append_assoc, List.append_assoc, List.cons_append]
    exact List.perm_middle)
  have h4 := St.bun_iff (As := [B]) (R := As1 ++ As2 ++ R) |>.2 h3
  have h5 : St w0 M (As1 ++ As2 ++ [B] ++ R) w := h3.perm (by
    rw [List.append_assoc (As1 ++ As2)]
    exact (List.perm_middle (a := B) (l₁ := As1 ++ As2) (l₂ := R)).symm)
  have h6 : St w0 M (bun (As1 ++ As2) :: B :: R) w := St.bun_iff.2 (by simpa using h5)
  exact h6.perm (List.Perm.swap _ _ _)
theorem Re.back (h : As = As1 ++ B :: As2) : Re (B :: bun (As1 ++ As2) :: R) (bun As :: R) := fun w0 M w hs => by
  subst h
  have h1 := Re.into w0 M w hs
  have h2 := St.bun_iff.1 h1
  refine St.bun_iff.2 (h2.perm ?_)
  refine List.Perm.append_right R ?_
  rw [List.append_assoc]
  exact (List.perm_middle (a := B) (l₁ := As1) (l₂ := As2)).symm.symm.trans (by exact List.Perm.refl _) |> fun _ => by
    have : (As2 ++ [B]).Perm (B :: As2) := List.perm_append_comm
    exact List.Perm.append_left As1 this
theorem Re.cons (h : Re L L') : Re (A :: L) (A :: L') := fun w0 M w hs => by
  have hA : St w0 M L w := ⟨hs.fr, fun B hB => hs.at_ B (by simp [hB]), (List.pairwise_cons.1 hs.nd).2, fun k hk => hs.mine k (by simp [hk])⟩
  have h2 := h w0 M w hA
  -- the footprint of L' lies in that of L: shown through a call that owns just these
  have hown : St w (feet L) L w := ⟨Frame.refl w _, hA.at_, hA.nd, fun k hk => .inr hk⟩
  have h3 := h w (feet L) w hown
  have hsub : ∀ k ∈ feet L', k ∈ feet L := fun k hk => by
    rcases h3.mine k hk with h4 | h4
    · have := h3.lt k hk; omega
    · exact h4
  refine ⟨hs.fr, fun B hB => ?_, List.pairwise_cons.2 ⟨fun B hB k hk hk' => ?_, h2.nd⟩, fun k hk => ?_⟩
  · rcases List.mem_cons.1 hB with rfl | hB
    · exact hs.at_ B (by simp)
    · exact h2.at_ B hB
  · obtain ⟨C, hC, hkC⟩ := mem_feet.1 (hsub k (mem_feet.2 ⟨B, hB, hk'⟩))
    exact (List.pairwise_cons.1 hs.nd).1 C hC k hk hkC
  · rw [feet_cons, List.mem_append] at hk
    rcases hk with hk | hk
    · exact hs.mine k (by simp [hk])
    · exact h2.mine k hk
end
section
variable {c : Cx} {k : List It} {E : Env} {L L' : List Sp} {As : List Sp} {A : Sp} {v : Value} {s : Nat} {els : List (List Value)}
theorem J.re (h : Re L L') (hj : J c k E L') : J c k E L := fun ok a w ha hs => hj ok a w ha (h _ _ _ hs)
/-- One of those that may be read is named. -/
theorem J.ros (i : Nat) (hi : c.Ro[i]? = some (ros As)) (hm : A ∈ As) (h : J { c with Ro := c.Ro ++ [A] } k E L) : J c k E L := fun ok a w ha hs =>
  h (fun B hB => by
    rcases List.mem_append.1 hB with hB | hB
    · exact ok B hB
    · obtain rfl := List.mem_singleton.1 hB
      obtain ⟨h1, h2⟩ := ok _ (List.mem_of_getElem? hi)
      exact ⟨h1 B hm, fun k hk => h2 k (mem_feet.2 ⟨B, hm, hk⟩)⟩) a w ha hs
/-- A bundle of rows of one's own, read. -/
theorem bun_ros {α : Type} {f g : α → Sp} {l : List α} (h : ∀ x ∈ l, ∀ w, (f x).holds w → (g x).holds w ∧ ∀ k ∈ (g x).foot, k ∈ (f x).foot) : ∀ w, (bun (l.map f)).holds w → (ros (l.map g)).holds w ∧ ∀ k ∈ (ros (l.map g)).foot, k ∈ (bun (l.map f)).foot := fun w hw => by
  refine ⟨fun A hA => ?_, fun k hk => ?_⟩
  · obtain ⟨x, hx, rfl⟩ := List.mem_map.1 hA
    exact (h x hx w (hw.1 _ (List.mem_map.2 ⟨x, hx, rfl⟩))).1
  · obtain ⟨A, hA, hk⟩ := mem_feet.1 hk
    obtain ⟨x, hx, rfl⟩ := List.mem_map.1 hA
    exact mem_feet.2 ⟨f x, List.mem_map.2 ⟨x, hx, rfl⟩, (h x hx w (hw.1 _ (List.mem_map.2 ⟨x, hx, rfl⟩))).2 k hk⟩
end
end Go.LK
