/-
  Maps against nil; contracts said of other atoms; what a map in one's own hands gives those who read it.
-/
import Derived.Test.YtdnalilglacjbaaLkE
namespace Go.LK
open Go Go.RowKit

section
variable {c : Cx} {E : Env} {ty T : TypeId} {x : Operand}
theorem Pu.ptrNe {e : TypeId} {ad : Addr} (hT : c.P.underlying T = some (.pointer e)) (hx : ev E x = some (.pointer (some ad))) : Pu c E (.binOp .neq T x (.const (.pointer none)) T) ty (.bool true) := fun a w h _ _ _ _ => by
  have h3 : ∀ d, (Op.equalIn (d + 1) T (.pointer (some ad)) (.pointer none)).run c.P w = .ok false w := fun d => by simp [Op.equalIn, run_underlying hT]
  have h4 : (binOp .neq T (.pointer (some ad)) (.pointer none)).run c.P w = .ok (.bool true) w := by
    simp only [binOp]
    simp [Op.equal, Op.maxDepth, h3 9999]
  have h5 : eqGuard .neq T x (.const (.pointer none)) (.pointer (some ad)) (.pointer none) = pure () := by cases x <;> rfl
  have h2 : a.eval (.const (.pointer none)) = .pointer none := rfl
  simp only [execOp, h.ev hx, h2, h5]
  simp [h4]
end

theorem JI.nilRow {c : Cx} {i : Ci} {k : List It} {E : Env} {L : List Sp} (t : TypeId) (s : Nat) (h : JI c i k E (row (.slice none 0 0) t s [] :: L)) : JI c i k E L := fun ok a w ha hs =>
  h ok a w ha (hs.add (Frame.refl w _) ⟨World.ownsRow_nil w 0 t s, by simp⟩ (by simp [row, Value.ownBlock]))
theorem OI.one {c : Cx} {i : Ci} {k : List It} {E : Env} {L : List Sp} {ops : Array Oper} {rest : List Oper} {V : Value} {sz : Nat} {els : List (List Value)} (hs : Src c L V sz els) (h : V.oneCell' = true → OI c i ops rest k E L) : OI c i ops rest k E L := fun ok a w ha hst =>
  h (elt_one (hs ok w hst)) ok a w ha hst
theorem nodup_len : ∀ {ks l : List Int}, ks.Nodup → (∀ k ∈ ks, k ∈ l) → ks.length ≤ l.length
  | [], _, _, _ => by simp
  | k :: ks, l, hn, hs => by
    have hn' := List.nodup_cons.1 hn
    have hk : k ∈ l := hs k (by simp)
    have ih := nodup_len (ks := ks) (l := l.erase k) hn'.2 fun x hx => (List.mem_erase_of_ne (fun e => hn'.1 (by rw [← e]; exact hx))).2 (hs x (by simp [hx]))
    rw [List.length_erase_of_mem hk] at ih
    have := List.length_pos_of_mem hk
    simp only [List.length_cons]; omega
/-- What a range over keys has met so far. -/
def KMet {α : Type} (m : List (Int × α)) (vs : List (List Value)) (ks : List Int) : Prop := vs = ks.map (fun k => [Value.int .i64 k]) ∧ ks.Nodup ∧ ∀ k ∈ ks, k ∈ keysI m
theorem KMet.nil {α : Type} {m : List (Int × α)} : KMet m [] [] := ⟨rfl, by simp, by simp⟩
theorem KMet.next {α : Type} {m : List (Int × α)} {vs : List (List Value)} {ks : List Int} {k : Int} (h : KMet m vs ks) (hk : k ∈ keysI m) (hn : [Value.int .i64 k] ∉ vs) : KMet m (vs ++ [[Value.int .i64 k]]) (ks ++ [k]) := by
  obtain ⟨h1, h2, h3⟩ := h
  have hkn : k ∉ ks := fun hi => hn (by rw [h1]; exact List.mem_map.2 ⟨k, hi, rfl⟩)
  refine ⟨by rw [ky_app, h1], List.nodup_append.2 ⟨h2, by simp, fun a ha b hb => by simp at hb; subst hb; exact fun e => hkn (e ▸ ha)⟩, fun x hx => ?_⟩
  rcases List.mem_append.1 hx with hx | hx
  · exact h3 x hx
  · simp at hx; subst hx; exact hk
theorem KMet.len {α : Type} {m : List (Int × α)} {vs : List (List Value)} {ks : List Int} (h : KMet m vs ks) : ks.length ≤ m.length := by
  have := nodup_len h.2.1 h.2.2
  simpa [keysI] using this

theorem Frame.more {w w' : World} {M M' : List Nat} (h : Frame w M w') (hs : ∀ k ∈ M, k ∈ M') : Frame w M' w' := ⟨h.os, h.tape, h.output, h.size, fun k hk hn => h.old k hk fun hm => hn (hs k hm)⟩
/-- An atom, said in other words. -/
theorem Re.imp {A B : Sp} {L : List Sp} (h : ∀ w, A.holds w → B.holds w) (hf : B.foot = A.foot) : Re (A :: L) (B :: L) := fun w0 M w hs => by
  have hfe : feet (B :: L) = feet (A :: L) := by rw [feet_cons, feet_cons, hf]
  refine ⟨hs.fr, fun C hC => ?_, ?_, fun k hk => hs.mine k (hfe ▸ hk)⟩
  · rcases List.mem_cons.1 hC with rfl | hC
    · exact h w (hs.at_ A (by simp))
    · exact hs.at_ C (by simp [hC])
  · have := List.pairwise_cons.1 hs.nd
    refine List.pairwise_cons.2 ⟨fun C hC k hk => this.1 C hC k (hf ▸ hk), this.2⟩
section
variable {P : Program} {f : FuncId} {args : Array Value} {Ro Ro1 L : List Sp} {post post1 : Value → List Sp → Prop}
end
end Go.LK
