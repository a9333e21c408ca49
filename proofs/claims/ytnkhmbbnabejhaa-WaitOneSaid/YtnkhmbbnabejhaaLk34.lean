/-
  Maps against nil; contracts said of other atoms; what a map in one's own hands gives those who read it.
-/
import Derived.Test.YtnkhmbbnabejhaaLk33
namespace Go.LK
open Go Go.RowKit

section
variable {c : Cx} {E : Env} {ty T : TypeId} {x : Operand}
theorem Pu.mapNil {k e : TypeId} (hT : c.P.underlying T = some (.map k e)) (hx : ev E x = some (.map none)) : Pu c E (.binOp .eql T x (.const (.map none)) T) ty (.bool true) := fun a w h _ _ _ _ => by
  have h3 : ∀ d, (Op.equalIn (d + 1) T (.map none) (.map none)).run c.P w = .ok true w := fun d => by simp [Op.equalIn, run_underlying hT]
  have h4 : (binOp .eql T (.map none) (.map none)).run c.P w = .ok (.bool true) w := by
    simp only [binOp]
    simp [Op.equal, Op.maxDepth, h3 9999]
  have h5 : eqGuard .eql T x (.const (.map none)) (.map none) (.map none) = pure () := by cases x <;> rfl
  have h2 : a.eval (.const (.map none)) = .map none := rfl
  simp only [execOp, h.ev hx, h2, h5]
  simp [h4]
theorem Pu.mapSome {k e : TypeId} {b : Nat} (hT : c.P.underlying T = some (.map k e)) (hx : ev E x = some (.map (some b))) : Pu c E (.binOp .eql T x (.const (.map none)) T) ty (.bool false) := fun a w h _ _ _ _ => by
  have h3 : ∀ d, (Op.equalIn (d + 1) T (.map (some b)) (.map none)).run c.P w = .ok false w := fun d => by simp [Op.equalIn, run_underlying hT]
  have h4 : (binOp .eql T (.map (some b)) (.map none)).run c.P w = .ok (.bool false) w := by
    simp only [binOp]
    simp [Op.equal, Op.maxDepth, h3 9999]
  have h5 : eqGuard .eql T x (.const (.map none)) (.map (some b)) (.map none) = pure () := by cases x <;> rfl
  have h2 : a.eval (.const (.map none)) = .map none := rfl
  simp only [execOp, h.ev hx, h2, h5]
  simp [h4]
theorem Pu.ptrNe {e : TypeId} {ad : Addr} (hT : c.P.underlying T = some (.pointer e)) (hx : ev E x = some (.pointer (some ad))) : Pu c E (.binOp .neq T x (.const (.pointer none)) T) ty (.bool true) := fun a w h _ _ _ _ => by
  have h3 : ∀ d, (Op.equalIn (d + 1) T (.pointer (some ad)) (.pointer none)).run c.P w = .ok false w := fun d => by simp [Op.equalIn, run_underlying hT]
  have h4 : (binOp .neq T (.pointer (some ad)) (.pointer none)).run c.P w = .ok (.bool true) w := by
    simp only [binOp]
    simp [Op.equal, Op.maxDepth, h3 9999]
  have h5 : eqGuard .neq T x (.const (.pointer none)) (.pointer (some ad)) (.pointer none) = pure () := by cases x <;> rfl
  have h2 : a.eval (.const (.pointer none)) = .pointer none := rfl
  simp only [execOp, h.ev hx, h2, h5]
  simp [h4]
theorem Pu.ptrNeNil {e : TypeId} (hT : c.P.underlying T = some (.pointer e)) (hx : ev E x = some (.pointer none)) : Pu c E (.binOp .neq T x (.const (.pointer none)) T) ty (.bool false) := fun a w h _ _ _ _ => by
  have h3 : ∀ d, (Op.equalIn (d + 1) T (.pointer none) (.pointer none)).run c.P w = .ok true w := fun d => by simp [Op.equalIn, run_underlying hT]
  have h4 : (binOp .neq T (.pointer none) (.pointer none)).run c.P w = .ok (.bool false) w := by
    simp only [binOp]
    simp [Op.equal, Op.maxDepth, h3 9999]
  have h5 : eqGuard .neq T x (.const (.pointer none)) (.pointer none) (.pointer none) = pure () := by cases x <;> rfl
  have h2 : a.eval (.const (.pointer none)) = .pointer none := rfl
  simp only [execOp, h.ev hx, h2, h5]
  simp [h4]
end

theorem JI.nilRow {c : Cx} {i : Ci} {k : List It} {E : Env} {L : List Sp} (t : TypeId) (s : Nat) (h : JI c i k E (row (.slice none 0 0) t s [] :: L)) : JI c i k E L := fun ok a w ha hs =>
  h ok a w ha (hs.add (Frame.refl w _) ⟨World.ownsRow_nil w 0 t s, by simp⟩ (by simp [row, Value.ownBlock]))
theorem OI.one {c : Cx} {i : Ci} {k : List It} {E : Env} {L : List Sp} {ops : Array Oper} {rest : List Oper} {V : Value} {sz : Nat} {els : List (List Value)} (hs : Src c L V sz els) (h : V.oneCell' = true → OI c i ops rest k E L) : OI c i ops rest k E L := fun ok a w ha hst =>
  h (elt_one (hs ok w hst)) ok a w ha hst
theorem mi_miV {α : Type} {b : Nat} {f : α → Value} {m : List (Int × α)} : ∀ w, (mi b f m).holds w → (miV (.map (some b)) f m).holds w ∧ ∀ k ∈ (miV (.map (some b)) f m).foot, k ∈ (mi b f m).foot := fun _ h => ⟨.inr ⟨b, rfl, h⟩, fun _ hk => hk⟩
theorem miV_nil {α : Type} {f : α → Value} {w : World} : (miV (.map none) f []).holds w := Or.inl ⟨rfl, rfl⟩
theorem miV_foot {α : Type} {f : α → Value} {k : Nat} (h : k ∈ (miV (.map none) f []).foot) : False := by
  have h2 : k ∈ ([] : List Nat) := h
  cases h2
theorem RoOk.nilM {c : Cx} {L LC RoC : List Sp} {α : Type} {f : α → Value} (h : RoOk c L LC RoC) : RoOk c L LC (miV (.map none) f [] :: RoC) := fun ok w hs A hA => by
  rcases List.mem_cons.1 hA with rfl | hA
  · exact ⟨miV_nil, fun k hk => (miV_foot hk).elim⟩
  · exact h ok w hs A hA
theorem ky_inj : ∀ {a b : List Int}, a.map (fun k => [Value.int .i64 k]) = b.map (fun k => [Value.int .i64 k]) → a = b
  | [], [], _ => rfl
  | [], _ :: _, h => by simp at h
  | _ :: _, [], h => by simp at h
  | x :: a, y :: b, h => by
    rw [List.map_cons, List.map_cons, List.cons.injEq] at h
    obtain ⟨h1, h2⟩ := h
    have : x = y := by simpa using h1
    rw [this, ky_inj h2]
theorem kyFull_of {α : Type} {m : List (Int × α)} {ks : List Int} {vs : List (List Value)} (h : kyFull m vs) (hv : vs = ks.map fun k => [Value.int .i64 k]) : ks.Perm (keysI m) := by
  obtain ⟨ks', h1, h2⟩ := h
  rw [← ky_inj (h1.symm.trans hv)]; exact h2
theorem nodup_len : ∀ {ks l : List Int}, ks.Nodup → (∀ k ∈ ks, k ∈ l) → ks.length ≤ l.length
  | [], _, _, _ => by simp
  | k :: ks, l, hn, hs => by
    have hn' := List.nodup_cons.1 hn
    have hk : k ∈ l := hs k (by simp)
    have ih := nodup_len (ks := ks) (l := l.erase k) hn'.2 fun x hx => (List.mem_erase_of_ne (fun e => hn'.1 (by rw [← e]; exact hx))).2 (hs x (by simp [hx]))
    rw [List.length_erase_of_mem hk] at ih
    have := List.length_pos_of_mem hk
    simp only [List.length_cons]; omega
/-- What a range over keys has met so far. -/
def KMet {α : Type} (m : List (Int × α)) (vs : List (List Value)) (ks : List Int) : Prop := vs = ks.map (fun k => [Value.int .i64 k]) ∧ ks.Nodup ∧ ∀ k ∈ ks, k ∈ keysI m
theorem KMet.nil {α : Type} {m : List (Int × α)} : KMet m [] [] := ⟨rfl, by simp, by simp⟩
theorem KMet.next {α : Type} {m : List (Int × α)} {vs : List (List Value)} {ks : List Int} {k : Int} (h : KMet m vs ks) (hk : k ∈ keysI m) (hn : [Value.int .i64 k] ∉ vs) : KMet m (vs ++ [[Value.int .i64 k]]) (ks ++ [k]) := by
  obtain ⟨h1, h2, h3⟩ := h
  have hkn : k ∉ ks := fun hi => hn (by rw [h1]; exact List.mem_map.2 ⟨k, hi, rfl⟩)
  refine ⟨by rw [ky_app, h1], List.nodup_append.2 ⟨h2, by simp, fun a ha b hb => by simp at hb; subst hb; exact fun e => hkn (e ▸ ha)⟩, fun x hx => ?_⟩
  rcases List.mem_append.1 hx with hx | hx
  · exact h3 x hx
  · simp at hx; subst hx; exact hk
theorem KMet.len {α : Type} {m : List (Int × α)} {vs : List (List Value)} {ks : List Int} (h : KMet m vs ks) : ks.length ≤ m.length := by
  have := nodup_len h.2.1 h.2.2
  simpa [keysI] using this

theorem Frame.more {w w' : World} {M M' : List Nat} (h : Frame w M w') (hs : ∀ k ∈ M, k ∈ M') : Frame w M' w' := ⟨h.os, h.tape, h.output, h.size, fun k hk hn => h.old k hk fun hm => hn (hs k hm)⟩
theorem Re.footSub {L L1 : List Sp} (h : Re L L1) {w : World} (hs : St w (feet L) L w) : ∀ k ∈ LK.feet L1, k ∈ LK.feet L := fun k hk => by
  have h1 := h w _ w hs
  rcases h1.mine k hk with h2 | h2
  · have := h1.lt k hk; omega
  · exact h2
/-- A contract, said of atoms that tell the same in other words. -/
theorem Tri.conv {P : Program} {f : FuncId} {args : Array Value} {Ro L L1 : List Sp} {post1 post : Value → List Sp → Prop} (h : Tri P f args Ro L1 post1) (h1 : Re L L1) (h2 : ∀ v L', post1 v L' → ∃ L2, post v L2 ∧ Re L' L2) : Tri P f args Ro L post := fun w hro hst => by
  have hs1 := h1 w _ w hst
  have hft := h1.footSub hst
  have hown : St w (feet L1) L1 w := ⟨Frame.refl w _, hs1.at_, hs1.nd, fun k hk => .inr hk⟩
  refine (h w (fun A hA => ⟨(hro A hA).1, fun k hk hk' => (hro A hA).2 k hk (hft k hk')⟩) hown).mono ?_
  rintro e w' ⟨v, L', rfl, hp, hs'⟩
  obtain ⟨L2, hp2, hr⟩ := h2 v L' hp
  refine ⟨v, L2, rfl, hp2, hr w _ w' ⟨hs'.fr.more hft, hs'.at_, hs'.nd, fun k hk => ?_⟩⟩
  rcases hs'.mine k hk with h3 | h3
  · exact .inl h3
  · exact .inr (hft k h3)
/-- An atom, said in other words. -/
theorem Re.imp {A B : Sp} {L : List Sp} (h : ∀ w, A.holds w → B.holds w) (hf : B.foot = A.foot) : Re (A :: L) (B :: L) := fun w0 M w hs => by
  have hfe : feet (B :: L) = feet (A :: L) := by rw [feet_cons, feet_cons, hf]
  refine ⟨hs.fr, fun C hC => ?_, ?_, fun k hk => hs.mine k (hfe ▸ hk)⟩
  · rcases List.mem_cons.1 hC with rfl | hC
    · exact h w (hs.at_ A (by simp))
    · exact hs.at_ C (by simp [hC])
  · have := List.pairwise_cons.1 hs.nd
    refine List.pairwise_cons.2 ⟨fun C hC k hk => this.1 C hC k (hf ▸ hk), this.2⟩
theorem Re.bunOut {As L : List Sp} : Re (bun As :: L) (As ++ L) := fun _ _ _ hs => St.bun_iff.1 hs
theorem Re.bunIn {As L : List Sp} : Re (As ++ L) (bun As :: L) := fun _ _ _ hs => St.bun_iff.2 hs
theorem Re.bunOut1 {As : List Sp} : Re [bun As] As := fun _ _ _ hs => by have := St.bun_iff.1 hs; simpa using this
theorem Re.bunIn1 {As : List Sp} : Re As [bun As] := fun _ _ _ hs => St.bun_iff.2 (by simpa using hs)
theorem bun_at {A : Sp} {As : List Sp} (hA : A ∈ As) : ∀ w, (bun As).holds w → A.holds w ∧ ∀ k ∈ A.foot, k ∈ (bun As).foot := fun _ h => ⟨h.1 A hA, fun _ hk => mem_feet.2 ⟨A, hA, hk⟩⟩
section
variable {P : Program} {f : FuncId} {args : Array Value} {Ro Ro1 L : List Sp} {post post1 : Value → List Sp → Prop}
theorem Tri.weak (h : Tri P f args Ro L post1) (hp : ∀ v L', post1 v L' → post v L') : Tri P f args Ro L post := fun w hro hst => (h w hro hst).mono fun _ _ ⟨v, L', he, hp1, hs⟩ => ⟨v, L', he, hp v L' hp1, hs⟩
/-- What is read may be read out of more. -/
theorem Tri.roFrom (h : Tri P f args Ro1 L post) (h1 : ∀ A1 ∈ Ro1, ∃ A ∈ Ro, ∀ w, A.holds w → A1.holds w ∧ ∀ k ∈ A1.foot, k ∈ A.foot) : Tri P f args Ro L post := fun w hro hst => h w (fun A1 hA1 => by
  obtain ⟨A, hA, hAA⟩ := h1 A1 hA1
  obtain ⟨h2, h3⟩ := hAA w (hro A hA).1
  exact ⟨h2, fun k hk => (hro A hA).2 k (h3 k hk)⟩) hst
/-- What is owned may be read. -/
theorem Tri.readOwn (h : Tri P f args Ro1 [] post1) (h1 : ∀ A1 ∈ Ro1, ∃ A ∈ L, ∀ w, A.holds w → A1.holds w ∧ ∀ k ∈ A1.foot, k ∈ A.foot) (h2 : ∀ v L1, post1 v L1 → post v (L1 ++ L)) : Tri P f args Ro L post := fun w _ hst => by
  have hst' : St w (feet L) ([] ++ L) w := hst
  refine (h w (fun A1 hA1 => ?_) hst'.own).mono ?_
  · obtain ⟨A, hA, hAA⟩ := h1 A1 hA1
    exact ⟨(hAA w (hst.at_ A hA)).1, fun k _ hk' => by simp [feet] at hk'⟩
  · rintro e w' ⟨v, L1, rfl, hp, hs⟩
    exact ⟨v, L1 ++ L, rfl, h2 v L1 hp, hst'.back hs⟩
end
end Go.LK
