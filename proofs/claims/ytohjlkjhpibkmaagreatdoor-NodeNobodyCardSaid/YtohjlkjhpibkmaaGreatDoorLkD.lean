/-
  Several texts in one: Lk26, Lk27, Lk28, Lk29.
-/
import Derived.Test.YtohjlkjhpibkmaaGreatDoorLk9
import Derived.Test.YtohjlkjhpibkmaaGreatDoorLk25
namespace Go.LK
open Go Go.RowKit

/-- The orders in which a region may be run. -/
def Valid (ops : Array Oper) : Nat → Array Bool → List Nat → Prop
  | 0, _, σ => σ = []
  | _ + 1, listed, [] => Region.ready .any ops listed = []
  | m + 1, listed, i :: σ => i ∈ Region.ready .any ops listed ∧ Valid ops m (listed.setIfInBounds i true) σ

theorem valid_lin (ops : Array Oper) : ∀ (fuel t : Nat) (listed : Array Bool), Valid ops fuel listed (Region.linearise.go .any ops fuel t listed [])
  | 0, t, listed => by simp [Region.linearise.go, Valid]
  | fuel + 1, t, listed => by
    simp only [Region.linearise.go]
    change Valid ops (fuel + 1) listed (match (Region.ready .any ops listed)[t % (Region.ready .any ops listed).length]? with
      | some i => Region.linearise.go .any ops fuel (t / (Region.ready .any ops listed).length) (listed.setIfInBounds i true) [i]
      | none => [].reverse)
    cases hi : (Region.ready .any ops listed)[t % (Region.ready .any ops listed).length]? with
    | none =>
      cases hr : Region.ready .any ops listed with
      | nil => simpa [Valid] using hr
      | cons x xs =>
        rw [hr] at hi
        have hlt : t % (x :: xs).length < (x :: xs).length := Nat.mod_lt _ (by simp)
        simp at hi
        simp at hlt
        omega
    | some i =>
      simp only []
      rw [linearise_go_acc, List.reverse_singleton, List.singleton_append]
      exact ⟨List.mem_of_getElem? hi, valid_lin ops fuel _ _⟩

theorem any_valid {P : Program} {ops : Array Oper} {Q : Exit → Act → World → Prop} : ∀ (fuel : Nat) (listed : Array Bool) (σ : List Nat) (a : Act) (w : World), wpAny P .any ops Q fuel listed a w → Valid ops fuel listed σ → wpOps P ops Q σ a w
  | 0, listed, σ, a, w, h, hv => by
    cases hv
    simpa [wpOps] using h.2
  | fuel + 1, listed, [], a, w, h, hv => by simpa [wpOps] using h.1 hv
  | fuel + 1, listed, i :: σ, a, w, h, hv => by
    rw [wpOps_cons]
    exact wpOp_mono (fun a w h2 => any_valid fuel _ σ a w h2 hv.2) (h.2 i hv.1)

def waitOn (j : Nat) (o : Oper) : Oper := { o with after := o.after.push ⟨j, .data⟩ }
/-- Operation i waits for operation j, too. -/
def edge : Nat → Nat → List Oper → List Oper
  | _, _, [] => []
  | 0, j, o :: l => waitOn j o :: l
  | i + 1, j, o :: l => o :: edge i j l

theorem edge_at : ∀ (i j : Nat) (l : List Oper) (k : Nat), (edge i j l)[k]? = (l[k]?).map fun o => if k = i then waitOn j o else o
  | _, _, [], k => by simp [edge]
  | 0, j, o :: l, 0 => by simp [edge]
  | 0, j, o :: l, k + 1 => by simp [edge]
  | i + 1, j, o :: l, 0 => by simp [edge]
  | i + 1, j, o :: l, k + 1 => by
    rw [edge, List.getElem?_cons_succ, List.getElem?_cons_succ, edge_at i j l k]
    simp
theorem edge_len (i j : Nat) (l : List Oper) : (edge i j l).length = l.length := by
  induction l generalizing i with
  | nil => cases i <;> rfl
  | cons o l ih => cases i <;> simp [edge, ih]

theorem exec_wait (j : Nat) (o : Oper) (ev : Operand → Value) : execOp ev (waitOn j o) = execOp ev o := by cases o; rfl
theorem wp_wait {P : Program} {j : Nat} {o : Oper} {a : Act} {w : World} {K : Act → World → Prop} {Q : Exit → Act → World → Prop} : (waitOn j o).wp P a w K Q ↔ o.wp P a w K Q := by
  unfold Oper.wp
  rw [exec_wait]
  cases o
  exact Iff.rfl
theorem asks_wait {P : Program} {j : Nat} {o : Oper} {a : Act} {w : World} : (waitOn j o).asks P a w ↔ o.asks P a w := by
  unfold Oper.asks
  rw [exec_wait]
theorem yielded_edge (i j : Nat) (l : List Oper) (tmps : Array Value) (k : Nat) : yielded (edge i j l).toArray tmps k = yielded l.toArray tmps k := by
  unfold yielded
  have : ((edge i j l).toArray[k]?).bind (·.dst) = (l.toArray[k]?).bind (·.dst) := by
    simp only [List.getElem?_toArray, edge_at]
    cases l[k]? with
    | none => rfl
    | some o => simp only [Option.map_some, Option.bind_some]; split <;> rfl
  rw [this]
theorem wpOps_edge {P : Program} {Q : Exit → Act → World → Prop} (i j : Nat) (l : List Oper) : ∀ (σ : List Nat) (a : Act) (w : World), wpOps P (edge i j l).toArray Q σ a w → wpOps P l.toArray Q σ a w
  | [], a, w, h => by simpa [wpOps] using h
  | k :: σ, a, w, h => by
    rw [wpOps_cons] at h ⊢
    have h1 : wpOp P (edge i j l).toArray Q k (wpOps P l.toArray Q σ) a w := wpOp_mono (fun a w h => wpOps_edge i j l σ a w h) h
    unfold wpOp at h1 ⊢
    simp only [List.getElem?_toArray, edge_at] at h1 ⊢
    cases ho : l[k]? with
    | none => simpa [ho] using h1
    | some o =>
      simp only [ho, Option.map_some] at h1 ⊢
      have hy : yielded (edge i j l).toArray a.tmps = yielded l.toArray a.tmps := funext (yielded_edge i j l a.tmps)
      by_cases hk : k = i
      · rw [if_pos hk] at h1
        rw [hy] at h1
        have hw : Region.wanted (waitOn j o) (yielded l.toArray a.tmps) = Region.wanted o (yielded l.toArray a.tmps) := rfl
        rw [hw, wp_wait, asks_wait] at h1
        exact h1
      · rw [if_neg hk, hy] at h1
        exact h1

theorem ready_edge {i j : Nat} {l : List Oper} {listed : Array Bool} {k : Nat} : k ∈ Region.ready .any (edge i j l).toArray listed ↔ k ∈ Region.ready .any l.toArray listed ∧ (k = i → listed.getD j false = true) := by
  unfold Region.ready
  simp only [List.mem_filter, List.mem_range, List.size_toArray, edge_len, List.getElem?_toArray, edge_at, Bool.and_eq_true]
  by_cases hk : k = i
  · subst hk
    cases ho : l[k]? with
    | none => simp
    | some o =>
      simp only [Option.map_some, if_true, Option.getD_some, waitOn, Array.all_push, Bool.and_eq_true, true_implies]
      have hb : (!Region.binds .any (⟨j, .data⟩ : Edge)) = false := rfl
      simp only [hb, Bool.false_or]
      constructor
      · rintro ⟨h1, h2, h3, h4⟩; exact ⟨⟨h1, h2, h3⟩, h4⟩
      · rintro ⟨⟨h1, h2, h3⟩, h4⟩; exact ⟨h1, h2, h3, h4⟩
  · cases ho : l[k]? with
    | none => simp [hk]
    | some o => simp [hk]

theorem valid_edge {i j : Nat} {l : List Oper} : ∀ (m : Nat) (listed : Array Bool) (σ : List Nat), Valid l.toArray m listed σ → (∀ p q, σ = p ++ i :: q → j ∈ p ∨ listed.getD j false = true) → Valid (edge i j l).toArray m listed σ
  | 0, listed, σ, h, _ => h
  | m + 1, listed, [], h, _ => by
    have h : Region.ready .any l.toArray listed = [] := h
    change Region.ready .any (edge i j l).toArray listed = []
    refine List.eq_nil_iff_forall_not_mem.2 fun k hk => ?_
    have := (ready_edge.1 hk).1
    rw [h] at this
    cases this
  | m + 1, listed, k :: σ, h, hg => by
    refine ⟨ready_edge.2 ⟨h.1, fun hk => ?_⟩, valid_edge m _ σ h.2 fun p q hpq => ?_⟩
    · rcases hg [] σ (by rw [hk]; rfl) with h1 | h1
      · cases h1
      · exact h1
    · rcases hg (k :: p) q (by rw [hpq]; rfl) with h1 | h1
      · rcases List.mem_cons.1 h1 with rfl | h1
        · refine .inr ?_
          have hlt : j < listed.size := by
            have := h.1
            unfold Region.ready at this
            simp only [List.mem_filter, Bool.and_eq_true, Bool.not_eq_true'] at this
            by_cases hj : j < listed.size
            · exact hj
            · have h2 := this.2.1
              rw [Array.getD_eq_getD_getElem?, Array.getElem?_eq_none (by omega)] at h2
              cases h2
          rw [Array.getD_eq_getD_getElem?, Array.getElem?_setIfInBounds_self_of_lt hlt]; rfl
        · exact .inl h1
      · refine .inr ?_
        rw [Array.getD_eq_getD_getElem?, Array.getElem?_setIfInBounds]
        split
        · split
          · rfl
          · rename_i hlt
            rw [Array.getD_eq_getD_getElem?, Array.getElem?_eq_none (by omega)] at h1
            cases h1
        · rw [← Array.getD_eq_getD_getElem?]; exact h1

def A (c : Cx) (l : List Oper) (k : List It) (E : Env) (L : List Sp) : Prop := c.Ok → ∀ a w, Has c.n a E → St c.w0 c.M L w → ∀ σ, Valid l.toArray l.length (Array.replicate l.length false) σ → wpOps c.P l.toArray (c.Q k) σ a w
section
variable {c : Cx} {k : List It} {E : Env} {K L : List Sp} {l : List Oper}
theorem J.drawA {id : Nat} (hm : c.P.follows .mixedOrders = true) (h : A c l k E L) : J c (.code (.region id l.toArray true) :: k) E L := fun ok a w ha hs =>
  wp_region_draw fun t => by
    simp only [Region.schedule, hm, Bool.true_or, if_true]
    have := h ok a _ ha hs.drew' (Region.linearise .any l.toArray t) (by
      have := valid_lin l.toArray l.toArray.size t (Array.replicate l.toArray.size false)
      simpa [Region.linearise] using this)
    exact this
theorem A.edge (i j : Nat) (hij : Nat.beq i j = false) (h1 : A c (LK.edge i j l) k E L) (h2 : A c (LK.edge j i l) k E L) : A c l k E L := fun ok a w ha hs σ hv => by
  have hij : i ≠ j := fun h => by subst h; simp at hij
  by_cases hg : ∀ p q, σ = p ++ i :: q → j ∈ p ∨ (Array.replicate l.length false).getD j false = true
  · refine wpOps_edge i j l σ a w (h1 ok a w ha hs σ ?_)
    rw [edge_len]
    exact valid_edge _ _ σ hv hg
  · refine wpOps_edge j i l σ a w (h2 ok a w ha hs σ ?_)
    rw [edge_len]
    refine valid_edge _ _ σ hv fun p' q' hp' => ?_
    simp only [Classical.not_forall, not_or] at hg
    obtain ⟨p, q, hp, hn, _⟩ := hg
    refine .inl ?_
    rw [hp] at hp'
    rcases List.append_eq_append_iff.1 hp' with ⟨r, rfl, h3⟩ | ⟨r, rfl, h3⟩
    · cases r with
      | nil => simp at h3; exact absurd h3.1 hij
      | cons x r =>
        simp only [List.cons_append, List.cons.injEq] at h3
        rw [← h3.1]; simp
    · cases r with
      | nil => simp at h3; exact absurd h3.1.symm hij
      | cons x r =>
        simp only [List.cons_append, List.cons.injEq] at h3
        exact absurd (by rw [← h3.1]; simp) hn
theorem A.mix (ord : List (Nat × Bool)) (is : List Nat) (K : List Sp) (hB : mixB l.toArray ord = true) (hn : is.Nodup) (hL : LK.sel L is = K)
    (h : Mx c l.toArray (fun E' L' => J c k E' L') [] ord E K L) : A c l k E L := fun ok a w ha hs σ hv => by
  have := mix_sound (ok := ok) hB (fun _ hs => hL ▸ hs.sel hn) h ha hs
  refine any_valid _ _ σ a w this ?_
  simpa using hv
end
end Go.LK

namespace Go.LK
open Go Go.RowKit
/-- Several atoms of the call's own, pairwise apart. -/
def bun (As : List Sp) : Sp where
  foot := feet As
  holds w := (∀ A ∈ As, A.holds w) ∧ As.Pairwise Dj
  lt w h k hk := by
    obtain ⟨A, hA, hk⟩ := mem_feet.1 hk
    exact A.lt w (h.1 A hA) k hk
  loc w w' h hh := ⟨fun A hA => A.loc w w' (fun k hk => h k (mem_feet.2 ⟨A, hA, hk⟩)) (hh.1 A hA), hh.2⟩
theorem feet_bun {As R : List Sp} : feet (bun As :: R) = feet (As ++ R) := by rw [feet_cons, feet_append]; rfl
theorem dj_bun {As : List Sp} {B : Sp} : Dj (bun As) B ↔ ∀ A ∈ As, Dj A B := by
  constructor
  · intro h A hA k hk hk'
    exact h k (mem_feet.2 ⟨A, hA, hk⟩) hk'
  · intro h k hk hk'
    obtain ⟨A, hA, hk⟩ := mem_feet.1 hk
    exact h A hA k hk hk'
theorem St.bun_iff {w0 w : World} {M : List Nat} {As R : List Sp} : St w0 M (bun As :: R) w ↔ St w0 M (As ++ R) w := by
  constructor
  · intro h
    have h1 := h.at_ (bun As) (by simp)
    have h2 := List.pairwise_cons.1 h.nd
    refine ⟨h.fr, fun A hA => ?_, List.pairwise_append.2 ⟨h1.2, h2.2, fun A hA B hB => dj_bun.1 (h2.1 B hB) A hA⟩, fun k hk => h.mine k (by rw [feet_bun]; exact hk)⟩
    rcases List.mem_append.1 hA with hA | hA
    · exact h1.1 A hA
    · exact h.at_ A (by simp [hA])
  · intro h
    have h2 := List.pairwise_append.1 h.nd
    refine ⟨h.fr, fun A hA => ?_, List.pairwise_cons.2 ⟨fun B hB => dj_bun.2 fun A hA => h2.2.2 A hA B hB, h2.2.1⟩, fun k hk => h.mine k (by rw [feet_bun] at hk; exact hk)⟩
    rcases List.mem_cons.1 hA with rfl | hA
    · exact ⟨fun B hB => h.at_ B (by simp [hB]), h2.1⟩
    · exact h.at_ A (by simp [hA])
/-- The atoms, said in other words. -/
def Re (L L' : List Sp) : Prop := ∀ w0 M w, St w0 M L w → St w0 M L' w
section
variable {L L' R As As1 As2 : List Sp} {A B : Sp}
theorem Re.refl (L : List Sp) : Re L L := fun _ _ _ h => h
theorem Re.trans {L1 L2 L3 : List Sp} (h : Re L1 L2) (h' : Re L2 L3) : Re L1 L3 := fun w0 M w hs => h' w0 M w (h w0 M w hs)
theorem Re.perm (h : L.Perm L') : Re L L' := fun _ _ _ hs => hs.perm h
theorem Re.eq (h : L = L') : Re L L' := h ▸ Re.refl L
/-- Some of the atoms, in another order; the others are let go. -/
theorem Re.sel (is : List Nat) (hn : is.Nodup) (h : LK.sel L is = L') : Re L L' := fun _ _ _ hs => h ▸ hs.sel hn
theorem Re.new : Re R (bun [] :: R) := fun _ _ _ hs => St.bun_iff.2 hs
theorem Re.drop : Re (bun [] :: R) R := fun _ _ _ hs => St.bun_iff.1 hs
/-- One more. -/
theorem Re.into : Re (B :: bun As :: R) (bun (As ++ [B]) :: R) := fun w0 M w hs => by
  have h1 : St w0 M (bun As :: B :: R) w := hs.perm (List.Perm.swap _ _ _)
  have h2 := St.bun_iff.1 h1
  refine St.bun_iff.2 ?_
  rwa [List.append_assoc]
/-- One is taken out. -/
theorem Re.out (h : As = As1 ++ B :: As2) : Re (bun As :: R) (B :: bun (As1 ++ As2) :: R) := fun w0 M w hs => by
  subst h
  have h2 := St.bun_iff.1 hs
  have h3 : St w0 M (B :: (As1 ++ As2 ++ R)) w := h2.perm (by
    rw [List.append_assoc, List.append_assoc, List.cons_append]
    exact List.perm_middle)
  have h4 := St.bun_iff (As := [B]) (R := As1 ++ As2 ++ R) |>.2 h3
  have h5 : St w0 M (As1 ++ As2 ++ [B] ++ R) w := h3.perm (by
    rw [List.append_assoc (As1 ++ As2)]
    exact (List.perm_middle (a := B) (l₁ := As1 ++ As2) (l₂ := R)).symm)
  have h6 : St w0 M (bun (As1 ++ As2) :: B :: R) w := St.bun_iff.2 (by simpa using h5)
  exact h6.perm (List.Perm.swap _ _ _)
theorem Re.back (h : As = As1 ++ B :: As2) : Re (B :: bun (As1 ++ As2) :: R) (bun As :: R) := fun w0 M w hs => by
  subst h
  have h1 := Re.into w0 M w hs
  have h2 := St.bun_iff.1 h1
  refine St.bun_iff.2 (h2.perm ?_)
  refine List.Perm.append_right R ?_
  rw [List.append_assoc]
  exact (List.perm_middle (a := B) (l₁ := As1) (l₂ := As2)).symm.symm.trans (by exact List.Perm.refl _) |> fun _ => by
    have : (As2 ++ [B]).Perm (B :: As2) := List.perm_append_comm
    exact List.Perm.append_left As1 this
theorem Re.cons (h : Re L L') : Re (A :: L) (A :: L') := fun w0 M w hs => by
  have hA : St w0 M L w := ⟨hs.fr, fun B hB => hs.at_ B (by simp [hB]), (List.pairwise_cons.1 hs.nd).2, fun k hk => hs.mine k (by simp [hk])⟩
  have h2 := h w0 M w hA
  -- the footprint of L' lies in that of L: shown through a call that owns just these
  have hown : St w (feet L) L w := ⟨Frame.refl w _, hA.at_, hA.nd, fun k hk => .inr hk⟩
  have h3 := h w (feet L) w hown
  have hsub : ∀ k ∈ feet L', k ∈ feet L := fun k hk => by
    rcases h3.mine k hk with h4 | h4
    · have := h3.lt k hk; omega
    · exact h4
  refine ⟨hs.fr, fun B hB => ?_, List.pairwise_cons.2 ⟨fun B hB k hk hk' => ?_, h2.nd⟩, fun k hk => ?_⟩
  · rcases List.mem_cons.1 hB with rfl | hB
    · exact hs.at_ B (by simp)
    · exact h2.at_ B hB
  · obtain ⟨C, hC, hkC⟩ := mem_feet.1 (hsub k (mem_feet.2 ⟨B, hB, hk'⟩))
    exact (List.pairwise_cons.1 hs.nd).1 C hC k hk hkC
  · rw [feet_cons, List.mem_append] at hk
    rcases hk with hk | hk
    · exact hs.mine k (by simp [hk])
    · exact h2.mine k hk
end
section
variable {c : Cx} {k : List It} {E : Env} {L L' : List Sp} {As : List Sp} {A : Sp} {v : Value} {s : Nat} {els : List (List Value)}
end
end Go.LK

namespace Go.LK
open Go Go.RowKit
end Go.LK

namespace Go.LK
open Go Go.RowKit
section
variable {c : Cx} {E : Env} {L : List Sp} {ty : TypeId} {x : Operand}
theorem Pu.makeFuncB {fn : Fn} {xs cap : List Operand} (us vs : List Value) (hx : xs.map (ev E) = us.map some) (hc : cap.map (ev E) = vs.map some) : Pu c E (.makeFunc fn xs.toArray cap.toArray) ty (.func fn us.toArray vs.toArray) := fun a w ha _ _ _ _ => by
  simp [execOp, Instr.makeFunc, ha.evs hx, ha.evs hc]
theorem Lo.callB {f : FuncId} {xs : List Operand} {ts : Array TypeId} {first vs caps : List Value} {RoC LC : List Sp} {post : Value → List Sp → Prop} (hcall : ∀ args w, (callFunc f args).run c.P w = .ok (.enter f args) w) (hx : ev E x = some (.func (.func f) first.toArray caps.toArray))
    (hxs : xs.map (ev E) = vs.map some) (ht : Tri c.P f (first ++ vs ++ caps).toArray RoC LC post) (is js : List Nat) (hn : (is ++ js).Nodup) (hL : LK.sel L is = LC) (R : List Sp) (hR : LK.sel L js = R) (hro : RoOk c L LC RoC) :
    Lo c E L (.call { callee := .value x, args := xs.toArray, argTypes := ts }) ty fun v L' => ∃ Lp, post v Lp ∧ L' = Lp ++ R := fun ok a w ha hst d pos af g K Q hK => by
  have hsel : St c.w0 c.M (LC ++ R) w := by
    have := hst.sel hn
    rwa [show LK.sel L (is ++ js) = LC ++ R from by rw [← hL, ← hR]; simp [LK.sel]] at this
  have hpw := List.pairwise_append.1 hsel.nd
  have hC : St w (feet LC) LC w := ⟨Frame.refl w _, fun A hA => hsel.at_ A (by simp [hA]), hpw.1, fun k hk => .inr hk⟩
  have hcalls := ht w (hro ok w hst) hC
  have hexec : (execOp a.eval ⟨d, .call { callee := .value x, args := xs.toArray, argTypes := ts }, ty, pos, af, g⟩).run c.P w = .ok (.enter f (first ++ vs ++ caps).toArray) w := by
    have h1 : xs.map a.eval = vs := ha.evs hxs
    simp [execOp, resolve, Deferred.ofValue, invoke, ha.ev hx, h1, hcall]
  unfold Oper.wp
  rw [hexec]
  refine Calls.mono hcalls ?_
  rintro e w' ⟨v, Lp, rfl, hp, hs'⟩
  exact hK v _ w' ⟨Lp, hp, rfl⟩ (hsel.step hs'.fr hs'.at_ hs'.nd (fun k hk => (hs'.mine k hk).symm))
end
end Go.LK
