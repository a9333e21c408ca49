/-
  Several texts in one: LkI, LkJ.
-/
import Derived.Test.YtnhfgnnpbipcnaaGreatDoorLkM
import Derived.Laws.BytesString
import Derived.Lib.Split
import Derived.Laws.RangeAny
import Derived.Lib.Builder
import Derived.Lib.AppendStr
import Derived.Lib.UnsafeStr
import Derived.Laws.Externs
import Derived.Laws.Pointers
namespace Go.LK
open Go Go.RowKit

theorem set_cells {α : Type} {f : α → Value} {l : List α} {i : Nat} {x : α} (h : i < l.length) : (l.map f).take i ++ [f x] ++ (l.map f).drop (i + [f x].length) = (l.set i x).map f := by
  rw [← List.map_take, List.length_singleton, ← List.map_drop, List.set_eq_take_append_cons_drop, if_pos h]
  simp
theorem at_map {α : Type} {f : α → Value} {l : List α} {i : Nat} {x : α} (h : l[i]? = some x) : (l.map f)[i]? = some (f x) := by rw [List.getElem?_map, h]; rfl
theorem set_cells1 {α : Type} {f : α → Value} {l : List α} {i : Nat} {x : α} (h : i < l.length) : (l.map f).take (0 + i * 1) ++ [f x] ++ (l.map f).drop (0 + i * 1 + [f x].length) = (l.set i x).map f := by
  rw [Nat.zero_add, Nat.mul_one]
  exact set_cells h
theorem set_fits {α : Type} {f : α → Value} {l : List α} {i : Nat} (h : i < l.length) : Nat.ble (0 + i * 1 + 1) (l.map f).length = true := by
  rw [Nat.ble_eq, List.length_map]
  omega
section
variable {c : Cx} {E : Env} {L : List Sp} {x y : Operand} {T ty : TypeId} {kd : IntKind}
theorem Pu.indexAddrG {len e g off s : Nat} {m : Int} (hT : ∀ w, (underlying T).run c.P w = .ok (.array len e) w) (hs : ∀ w, (sizeOf e).run c.P w = .ok s w)
    (hx : ev E x = some (.pointer (some ⟨g, off, none⟩))) (hy : ev E y = some (.int kd m)) (h0 : 0 ≤ m) (h1 : m < len) : Pu c E (.indexAddr T x y) ty (.pointer (some ⟨g, off + m.toNat * s, none⟩)) := fun a w ha _ _ _ _ => by
  have hadd : Addr.add ⟨g, off, none⟩ (m.toNat * s) = ⟨g, off + m.toNat * s, none⟩ := by unfold Addr.add; split <;> simp_all
  simp [execOp, ha.ev hx, ha.ev hy, Instr.indexAt, Instr.sureAddr, asIntOf, hT, hs, h0, h1, hadd]
theorem Pu.wholeArr {n e g : Nat} {s : Nat} (hT : ∀ w, (underlying T).run c.P w = .ok (.array n e) w) (hs : ∀ w, (sizeOf e).run c.P w = .ok s w) (hx : ev E x = some (.pointer (some ⟨g, 0, none⟩))) :
    Pu c E (.slice T x none none none) ty (.slice (some ⟨g, 0, none⟩) n n) := fun a w ha _ _ _ _ => by
  by_cases hn : n = 0
  · subst hn; simp [execOp, ha.ev hx, Instr.sliceAt, Instr.sureAddr, Instr.sliceBounds, hT, hs]
  · have hadd : Addr.add ⟨g, 0, none⟩ (0 * s) = ⟨g, 0, none⟩ := by simp [Addr.add]
    simp [execOp, ha.ev hx, Instr.sliceAt, Instr.sureAddr, Instr.sliceBounds, hT, hs, Addr.add]
end

def valU8 (b : UInt8) : Value := .int .u8 b.toNat
theorem push_all : ∀ (l : List UInt8) (a : List UInt8), (l.map fun b => (b.toNat : Int)).foldl (fun (r : ByteArray) n => r.push (UInt8.ofNat n.toNat)) ⟨a.toArray⟩ = ⟨(a ++ l).toArray⟩
  | [], a => by simp
  | b :: l, a => by
    simp only [List.map_cons, List.foldl_cons, Int.toNat_natCast, UInt8.ofNat_toNat]
    have h : (ByteArray.mk a.toArray).push b = ⟨(a ++ [b]).toArray⟩ := by
      apply ByteArray.ext
      simp [ByteArray.push]
    rw [h, push_all l (a ++ [b]), List.append_assoc]; rfl
section
variable {c : Cx} {E : Env} {L : List Sp} {x : Operand} {S D ty : TypeId}
theorem Qt.bytesStr {e g n cap : Nat} {l : List UInt8} (hS : ∀ w, (underlying S).run c.P w = .ok (.slice e) w) (he : ∀ w, (underlying e).run c.P w = .ok (.int .u8) w) (hD : ∀ w, (underlying D).run c.P w = .ok .string w)
    (hx : ev E x = some (.slice (some ⟨g, 0, none⟩) n cap)) (hc : Cel c L g 0 (l.map valU8)) (hl : l.length = n) : Qt c E L (.convert S D x) ty (str l) := fun ok a w ha hs _ _ _ _ => by
  subst hl
  have hcells := hc ok w hs
  have hload : (loadCells ⟨g, 0, none⟩ l.length).run c.P w = .ok ((l.map fun b => (b.toNat : Int)).map (Value.int .u8)).toArray w := by
    have h := run_loadCells_list (P := c.P) (w := w) ⟨g, 0, none⟩ (l.map valU8) (fun j v hj => by
      have h1 := hcells j v hj
      have h2 : Addr.add ⟨g, 0, none⟩ j = ⟨g, 0 + j, none⟩ := by unfold Addr.add; split <;> simp_all
      rw [h2]; exact h1)
    rw [List.length_map] at h
    rw [h]
    congr 2
    rw [List.map_map]
    rfl
  have hrun := run_bytesToString w ⟨g, 0, none⟩ l.length cap _ hload
  have hp := push_all l []
  simp only [List.nil_append] at hp
  have hemp : (ByteArray.empty) = ⟨([] : List UInt8).toArray⟩ := rfl
  rw [hemp, hp] at hrun
  simp [execOp, ha.ev hx, convert, hS, hD, he, hrun]
end
end Go.LK

namespace Go.LK
open Go Go.RowKit

def encS (l : List UInt8) : List Value := [str l]
theorem encS.one {l : List (List UInt8)} : ∀ a ∈ l, (encS a).all Value.oneCell' = true := fun _ _ => rfl
def encZ (n : Int) : List Value := [.int .i64 n]
theorem encZ.one {l : List Int} : ∀ a ∈ l, (encZ a).all Value.oneCell' = true := fun _ _ => rfl
end Go.LK

namespace Go.LK
open Go Go.RowKit

/-- The block of a range over the string l, at byte p. -/
def itS (g : Nat) (l : List UInt8) (p : Nat) : Sp := blk g (.stringIter ⟨l.toArray⟩ p)
/-- The rune that begins at byte p, and how many bytes it has. -/
def rune (l : List UInt8) (p : Nat) : Nat × Nat := Utf8.decode ⟨l.toArray⟩ p

section
variable {c : Cx} {E : Env} {L : List Sp} {ty T : TypeId} {x : Operand} {l : List UInt8} {g p : Nat}
theorem Lo.range (hT : c.P.underlying T = some .string) (hx : ev E x = some (str l)) : Lo c E L (.range T x) ty fun v L' => ∃ g, v = .pointer (some ⟨g, 0, none⟩) ∧ L' = itS g l 0 :: L := fun _ a w ha hs d pos af g K Q hK =>
  wp_loud (v := .pointer (some ⟨w.heap.size, 0, none⟩)) (w' := w.alloc (.stringIter ⟨l.toArray⟩ 0)) (by simp [execOp, ha.ev hx, run_range_string w T _ hT, World.iter])
    (hK _ _ _ ⟨_, rfl, rfl⟩ (hs.alloc _))
theorem Lo.next (i : Nat) (hx : ev E x = some (.pointer (some ⟨g, 0, none⟩))) (hi : L[i]? = some (itS g l p)) (h : p < l.length) :
    Lo c E L (.next x true) ty fun v L' => v = .tuple #[.bool true, .int .i64 p, .int .i32 (rune l p).1] ∧ L' = L.set i (itS g l (p + (rune l p).2)) := fun _ a w ha hst d pos af gd K Q hK => by
  have hh : w.heap[g]? = some (.stringIter ⟨l.toArray⟩ p) := hst.at_ _ (List.mem_of_getElem? hi)
  have hlt := (Array.getElem?_eq_some_iff.1 hh).1
  have hp : p < (ByteArray.mk l.toArray).size := by rw [size_mk]; exact h
  refine wp_loud (v := .tuple #[.bool true, .int .i64 p, .int .i32 (rune l p).1]) (w' := { w with heap := w.heap.setIfInBounds g (.stringIter ⟨l.toArray⟩ (p + (rune l p).2)) })
    (by simp [execOp, ha.ev hx, Instr.next, getObj, setObj, Sem.run, hh, hp, Result.andThen, goInt, rune]) ?_
  refine hK _ _ _ ⟨rfl, rfl⟩ (hst.set hi ⟨rfl, rfl, rfl, by simp, fun k _ hk => ?_⟩ ?_ (fun k hk => .inl hk))
  · have : g ≠ k := fun e => hk (by simp [itS, blk, e])
    simp [Array.getElem?_setIfInBounds_ne this]
  · show ({ w with heap := w.heap.setIfInBounds g _ } : World).heap[g]? = _
    simp [hlt]
theorem Lo.nextEnd (i : Nat) (hx : ev E x = some (.pointer (some ⟨g, 0, none⟩))) (hi : L[i]? = some (itS g l p)) (h : ¬ p < l.length) :
    Lo c E L (.next x true) ty fun v L' => v = .tuple #[.bool false] ∧ L' = L := fun _ a w ha hst d pos af gd K Q hK => by
  have hh : w.heap[g]? = some (.stringIter ⟨l.toArray⟩ p) := hst.at_ _ (List.mem_of_getElem? hi)
  have hp : ¬ p < (ByteArray.mk l.toArray).size := by rw [size_mk]; exact h
  exact wp_loud (v := .tuple #[.bool false]) (w' := w) (by simp [execOp, ha.ev hx, Instr.next, getObj, Sem.run, hh, hp, Result.andThen]) (hK _ _ _ ⟨rfl, rfl⟩ hst)
end

/-! ### What a rune is -/
theorem mk_get (l : List UInt8) (p k : Nat) (h : p + k < l.length) : (ByteArray.mk l.toArray).get! (p + k) = l[p + k] := by
  have : p + k < l.toArray.size := by simpa using h
  simp [ByteArray.get!, getElem!_pos, h]
/-- A rune begins at a byte below 128, and is that byte; or it and all of its bytes are from 128 up. -/
theorem rune_cases {l : List UInt8} {p : Nat} {b : UInt8} (hb : l[p]? = some b) :
    (b.toNat < 128 ∧ rune l p = (b.toNat, 1)) ∨ (128 ≤ b.toNat ∧ 128 ≤ (rune l p).1 ∧ 1 ≤ (rune l p).2 ∧ p + (rune l p).2 ≤ l.length ∧ ∀ j c, p ≤ j → j < p + (rune l p).2 → l[j]? = some c → 128 ≤ c.toNat) := by
  obtain ⟨hlt, he⟩ := List.getElem?_eq_some_iff.1 hb
  have hs : (ByteArray.mk l.toArray).size = l.length := size_mk l
  have h0 : ((ByteArray.mk l.toArray).get! (p + 0)).toNat = b.toNat := by rw [mk_get l p 0 (by omega)]; exact congrArg UInt8.toNat he
  by_cases h : b.toNat < 128
  · refine .inl ⟨h, ?_⟩
    unfold rune
    simp only [Utf8.decode, h0, h, if_true]
  · refine .inr ⟨by omega, ?_⟩
    have hc : ∀ k c, p + k < l.length → ((ByteArray.mk l.toArray).get! (p + k)).toNat / 64 = 2 → l[p + k]? = some c → 128 ≤ c.toNat := fun k c h1 h2 h3 => by
      rw [mk_get l p k h1] at h2
      rw [List.getElem?_eq_getElem h1] at h3
      cases h3
      omega
    have key : ∀ n, n ≤ 4 → (∀ k c, k < n → l[p + k]? = some c → 128 ≤ c.toNat) → ∀ j c, p ≤ j → j < p + n → l[j]? = some c → 128 ≤ c.toNat := fun n _ hk j c h1 h2 h3 => hk (j - p) c (by omega) (by rw [show p + (j - p) = j from by omega]; exact h3)
    have hz : ∀ c, l[p + 0]? = some c → 128 ≤ c.toNat := fun c h3 => by rw [Nat.add_zero, hb] at h3; cases h3; omega
    have one : ∀ k c, k < 1 → l[p + k]? = some c → 128 ≤ c.toNat := fun k c h1 h3 => by
      have : k = 0 := by omega
      subst this
      exact hz c h3
    unfold rune
    simp only [Utf8.decode, h0, h, if_false, hs, Bool.and_eq_true, decide_eq_true_eq, beq_iff_eq]
    split
    · rename_i h1
      split
      · rename_i h2
        refine ⟨h2, by show 1 ≤ 2; omega, by show p + 2 ≤ _; omega, key 2 (by omega) fun k c hk h3 => ?_⟩
        by_cases hk0 : k = 0
        · subst hk0; exact hz c h3
        · have : k = 1 := by omega
          subst this
          exact hc 1 c h1.2.1 h1.2.2 h3
      · exact ⟨by show 128 ≤ Utf8.runeError; decide, by show 1 ≤ 1; omega, by show p + 1 ≤ _; omega, key 1 (by omega) one⟩
    · split
      · rename_i h1
        split
        · rename_i h2
          refine ⟨by show 128 ≤ _; omega, by show 1 ≤ 3; omega, by show p + 3 ≤ _; omega, key 3 (by omega) fun k c hk h3 => ?_⟩
          by_cases hk0 : k = 0
          · subst hk0; exact hz c h3
          · by_cases hk1 : k = 1
            · subst hk1; exact hc 1 c h1.1.2.1 h1.1.2.2 h3
            · have : k = 2 := by omega
              subst this
              exact hc 2 c h1.2.1 h1.2.2 h3
        · exact ⟨by show 128 ≤ Utf8.runeError; decide, by show 1 ≤ 1; omega, by show p + 1 ≤ _; omega, key 1 (by omega) one⟩
      · split
        · rename_i h1
          split
          · rename_i h2
            refine ⟨by show 128 ≤ _; omega, by show 1 ≤ 4; omega, by show p + 4 ≤ _; omega, key 4 (by omega) fun k c hk h3 => ?_⟩
            by_cases hk0 : k = 0
            · subst hk0; exact hz c h3
            · by_cases hk1 : k = 1
              · subst hk1; exact hc 1 c h1.1.1.2.1 h1.1.1.2.2 h3
              · by_cases hk2 : k = 2
                · subst hk2; exact hc 2 c h1.1.2.1 h1.1.2.2 h3
                · have : k = 3 := by omega
                  subst this
                  exact hc 3 c h1.2.1 h1.2.2 h3
          · exact ⟨by show 128 ≤ Utf8.runeError; decide, by show 1 ≤ 1; omega, by show p + 1 ≤ _; omega, key 1 (by omega) one⟩
        · exact ⟨by show 128 ≤ Utf8.runeError; decide, by show 1 ≤ 1; omega, by show p + 1 ≤ _; omega, key 1 (by omega) one⟩
end Go.LK

namespace Go.LK
open Go Go.RowKit

/-- V[a:b], of elements of s cells. -/
def vcut (V : Value) (s a b : Nat) : Value := match V with
  | .slice A _ cap => .slice (if cap = a then A else A.map (·.add (a * s))) (b - a) (cap - a)
  | v => v
theorem Elt.cut {w : World} {V : Value} {s : Nat} {els : List (List Value)} (h : Elt w V s els) {a b : Nat} (hab : a ≤ b) (hb : b ≤ els.length) : Elt w (vcut V s a b) s ((els.take b).drop a) := by
  obtain ⟨A, cap, hV, h1, h2⟩ := h.form
  have hlen : ((els.take b).drop a).length = b - a := by simp; omega
  have hat : ∀ i e, ((els.take b).drop a)[i]? = some e → a + i < b ∧ els[a + i]? = some e := fun i e hi => by
    have hlt := (List.getElem?_eq_some_iff.1 hi).1
    rw [hlen] at hlt
    rw [List.getElem?_drop, List.getElem?_take, if_pos (by omega)] at hi
    exact ⟨by omega, hi⟩
  have hne : (els.take b).drop a ≠ [] → ∃ cap', vcut V s a b = .slice (some ⟨vblk V, voff V + a * s, none⟩) (b - a) cap' := fun hn => by
    have hlt : a < b := Nat.lt_of_not_le fun hc => hn (List.eq_nil_of_length_eq_zero (by omega))
    obtain ⟨cap', hv⟩ := h.addr (fun hc => by subst hc; simp at hb; omega)
    have hcc : cap' = cap := by rw [hV] at hv; injection hv with _ _ h3; exact h3.symm
    have hA : A = some ⟨vblk V, voff V, none⟩ := by
      have := hV.symm.trans hv
      injection this with h3
    refine ⟨cap - a, ?_⟩
    have hvc : vcut V s a b = .slice (if cap = a then A else A.map (·.add (a * s))) (b - a) (cap - a) := by rw [hV]; rfl
    rw [hvc, if_neg (by omega), hA]
    simp [add_at]
  refine ⟨fun x hx => h.len x (List.mem_of_mem_take (List.mem_of_mem_drop hx)), ?_, fun hn => ?_, fun i e j u hi hj => ?_⟩
  · rw [hlen]
    subst hV
    exact ⟨_, cap - a, rfl, by omega, by omega⟩
  · obtain ⟨cap', hv⟩ := hne hn
    exact ⟨cap', by rw [hlen, hv]; rfl⟩
  · obtain ⟨cap', hv⟩ := hne (fun hc => by rw [hc] at hi; simp at hi)
    obtain ⟨h3, h4⟩ := hat i e hi
    have := h.cells (a + i) e j u h4 hj
    rw [hv]
    show w.cell? ⟨vblk V, voff V + a * s + i * s + j, none⟩ = some u
    rw [show voff V + a * s + i * s + j = voff V + (a + i) * s + j from by rw [Nat.add_mul]; omega]
    exact this
theorem vcut_blk {w : World} {V : Value} {s : Nat} {els : List (List Value)} (h : Elt w V s els) {a b : Nat} (hab : a ≤ b) (hb : b ≤ els.length) : ∀ k ∈ (rd (vcut V s a b) s ((els.take b).drop a)).foot, k ∈ (rd V s els).foot := by
  intro k hk
  simp only [rd] at hk ⊢
  split at hk
  · cases hk
  · rename_i hne
    have hne2 : (els.take b).drop a ≠ [] := fun hc => hne (by rw [hc]; rfl)
    have hE := h.cut hab hb
    obtain ⟨cap', hv⟩ := hE.addr hne2
    have hel : els ≠ [] := fun hc => hne2 (by rw [hc]; simp)
    have hfl : els.flatten ≠ [] := fun hc => hne (by
      rw [List.flatten_eq_nil_iff] at hc ⊢
      exact fun x hx => hc x (List.mem_of_mem_take (List.mem_of_mem_drop hx)))
    rw [if_neg hfl]
    obtain ⟨cap2, hV⟩ := h.addr hel
    have hlen : ((els.take b).drop a).length = b - a := by simp; omega
    have hlt : a < b := Nat.lt_of_not_le fun hc => hne2 (List.eq_nil_of_length_eq_zero (by omega))
    have : vblk (vcut V s a b) = vblk V := by
      obtain ⟨A, cap, hV', h1, _⟩ := h.form
      rw [hV'] at hV
      injection hV with h3
      rw [hV', h3]
      have hca : ¬ cap = a := by omega
      simp [vcut, vblk, hca, add_at]
    rw [this] at hk
    exact hk

section
variable {c : Cx} {k : List It} {E : Env} {L : List Sp} {ops : Array Oper} {rest : List Oper} {ty : TypeId} {v V : Value} {x y z : Operand} {T t : TypeId} {s : Nat}
variable {α : Type} {f : α → List Value} {l : List α}

theorem Src.cut {a b : Nat} (hs : Src c L V s (l.map f)) (hab : a ≤ b) (hb : b ≤ l.length) : Src c L (vcut V s a b) s (((l.take b).drop a).map f) := fun ok w hst => by
  have := (hs ok w hst).cut hab (by rw [List.length_map]; exact hb)
  rwa [← List.map_take, ← List.map_drop] at this
theorem Src.head {b : Nat} (hs : Src c L V s (l.map f)) (hb : b ≤ l.length) : Src c L (vcut V s 0 b) s ((l.take b).map f) := Src.cut (a := 0) hs (Nat.zero_le _) hb
theorem Src.tail {a b : Nat} (hs : Src c L V s (l.map f)) (ha : a ≤ l.length) (hb : b = l.length) : Src c L (vcut V s a b) s ((l.drop a).map f) := by
  subst hb
  have := Src.cut (b := l.length) hs ha (Nat.le_refl _)
  rwa [List.take_of_length_le (Nat.le_refl _)] at this

theorem run_sliceV {P : Program} {w : World} {V : Value} {els : List (List Value)} (hT : ∀ w, (underlying T).run P w = .ok (.slice t) w) (hz : ∀ w, (sizeOf t).run P w = .ok s w) (hE : Elt w V s els) {lo hi : Option Value} {a b : Nat}
    (hlo : (lo = none ∧ a = 0) ∨ lo = some (.int .i64 a)) (hhi : (hi = none ∧ b = els.length) ∨ hi = some (.int .i64 b)) (hab : a ≤ b) (hb : b ≤ els.length) : (Instr.sliceAt T V lo hi none).run P w = .ok (vcut V s a b) w := by
  obtain ⟨A, cap, hV, h1, h2⟩ := hE.form
  subst hV
  have hcb : b ≤ cap := by omega
  rcases hlo with ⟨rfl, rfl⟩ | rfl <;> rcases hhi with ⟨rfl, rfl⟩ | rfl <;>
    simp [Instr.sliceAt, Instr.slice, Instr.sliceBounds, Instr.sliceBound, asIntOf, hT, hz, vcut, hab, hcb, hb, h1]

theorem Qt.cutHead {j : Int} (hT : ∀ w, (underlying T).run c.P w = .ok (.slice t) w) (hz : ∀ w, (sizeOf t).run c.P w = .ok s w) (hx : ev E x = some V) (hs : Src c L V s (l.map f)) (hy : ev E z = some (.int .i64 j)) (h0 : 0 ≤ j) (h1 : j ≤ l.length) :
    Qt c E L (.slice T x none (some z) none) ty (vcut V s 0 j.toNat) := fun ok a w ha hst _ _ _ _ => by
  have h2 : ((j.toNat : Nat) : Int) = j := Int.toNat_of_nonneg h0
  have := run_sliceV (P := c.P) (w := w) (lo := none) (hi := some (.int .i64 j)) hT hz (hs ok w hst) (.inl ⟨rfl, rfl⟩) (.inr (by rw [h2])) (Nat.zero_le _) (by rw [List.length_map]; omega)
  simp [execOp, ha.ev hx, ha.ev hy, this]
theorem Qt.cutTail {j : Int} (hT : ∀ w, (underlying T).run c.P w = .ok (.slice t) w) (hz : ∀ w, (sizeOf t).run c.P w = .ok s w) (hx : ev E x = some V) (hs : Src c L V s (l.map f)) (hy : ev E y = some (.int .i64 j)) (h0 : 0 ≤ j) (h1 : j ≤ l.length) :
    Qt c E L (.slice T x (some y) none none) ty (vcut V s j.toNat l.length) := fun ok a w ha hst _ _ _ _ => by
  have h2 : ((j.toNat : Nat) : Int) = j := Int.toNat_of_nonneg h0
  have := run_sliceV (P := c.P) (w := w) (lo := some (.int .i64 j)) (hi := none) (b := l.length) hT hz (hs ok w hst) (.inr (by rw [h2])) (.inl ⟨rfl, by rw [List.length_map]⟩) (by omega) (by rw [List.length_map]; omega)
  simp [execOp, ha.ev hx, ha.ev hy, this]

/-- The head of an owned row is owned. -/
theorem row_head {w : World} {V : Value} {els : List (List Value)} {b : Nat} (h : (row V t s els).holds w) (hb : b ≤ els.length) : (row (vcut V s 0 b) t s (els.take b)).holds w := by
  obtain ⟨ho, hl⟩ := h
  have hlt : ∀ x ∈ els.take b, x.length = s := fun x hx => hl x (List.mem_of_mem_take hx)
  have hlen : (els.take b).length = b := by rw [List.length_take]; omega
  refine ⟨⟨length_flatten hlt, ?_⟩, hlt⟩
  rcases ho.2 with ⟨rfl, hn⟩ | ⟨g, cap, cur, rfl, hb', hg, hnc, hcm, hcs, htake⟩
  · refine .inl ⟨?_, by rw [hlen]; omega⟩
    have : b = 0 := by omega
    subst this
    rfl
  · refine .inr ⟨g, cap, cur, ?_, hb', hg, by omega, hcm, hcs, ?_⟩
    · rw [hlen]
      by_cases hc : cap = 0
      · simp [vcut, hc]
      · simp [vcut, hc, Addr.add]
    · rw [hlen]
      have h1 : els.flatten.take (b * s) = (els.take b).flatten := by
        conv => lhs; rw [← List.take_append_drop b els, List.flatten_append]
        rw [List.take_append_of_le_length (by rw [length_flatten hlt, hlen]; exact Nat.le_refl _), List.take_of_length_le (by rw [length_flatten hlt, hlen]; exact Nat.le_refl _)]
      rw [← h1, ← htake, List.take_take, Nat.min_eq_left (Nat.mul_le_mul_right s hb)]
theorem Lo.headRow (i : Nat) {j : Int} (hT : ∀ w, (underlying T).run c.P w = .ok (.slice t) w) (hz : ∀ w, (sizeOf t).run c.P w = .ok s w) (hx : ev E x = some V) (hi : L[i]? = some (row V t s (l.map f))) (hy : ev E z = some (.int .i64 j)) (h0 : 0 ≤ j) (h1 : j ≤ l.length) :
    Lo c E L (.slice T x none (some z) none) ty fun v L' => v = vcut V s 0 j.toNat ∧ L' = L.set i (row (vcut V s 0 j.toNat) t s ((l.take j.toNat).map f)) := fun ok a w ha hst d pos af gd K Q hK => by
  have hh := hst.at_ _ (List.mem_of_getElem? hi)
  refine wp_loud (v := vcut V s 0 j.toNat) (w' := w) (Qt.cutHead hT hz hx (Src.row i hi) hy h0 h1 ok a w ha hst _ _ _ _) (hK _ _ _ ⟨rfl, rfl⟩ (hst.set hi (Frame.refl w _) ?_ (fun k hk => .inl ?_)))
  · have := row_head (b := j.toNat) hh (by rw [List.length_map]; omega)
    rwa [← List.map_take] at this
  · rcases hh.1.2 with ⟨rfl, _⟩ | ⟨g, cap, cur, rfl, _⟩
    · simp [row, vcut, Value.ownBlock] at hk
    · by_cases hc : cap = 0 <;> simpa [row, vcut, Value.ownBlock, hc, Addr.add] using hk
theorem cut_rd {V : Value} {a b : Nat} (hab : a ≤ b) (hb : b ≤ l.length) : ∀ w, (rd V s (l.map f)).holds w → (rd (vcut V s a b) s (((l.take b).drop a).map f)).holds w ∧ ∀ k ∈ (rd (vcut V s a b) s (((l.take b).drop a).map f)).foot, k ∈ (rd V s (l.map f)).foot := fun w h => by
  have h1 := Elt.cut (s := s) h hab (by rw [List.length_map]; exact hb)
  have h2 := vcut_blk (s := s) h hab (by rw [List.length_map]; exact hb)
  rw [← List.map_take, ← List.map_drop] at h1 h2
  exact ⟨h1, h2⟩
theorem head_rd {V : Value} {b : Nat} (hb : b ≤ l.length) : ∀ w, (rd V s (l.map f)).holds w → (rd (vcut V s 0 b) s ((l.take b).map f)).holds w ∧ ∀ k ∈ (rd (vcut V s 0 b) s ((l.take b).map f)).foot, k ∈ (rd V s (l.map f)).foot := cut_rd (a := 0) (Nat.zero_le _) hb
theorem rd_trans {A B C : Sp} (h1 : ∀ w, C.holds w → B.holds w ∧ ∀ k ∈ B.foot, k ∈ C.foot) (h2 : ∀ w, B.holds w → A.holds w ∧ ∀ k ∈ A.foot, k ∈ B.foot) : ∀ w, C.holds w → A.holds w ∧ ∀ k ∈ A.foot, k ∈ C.foot := fun w hC =>
  ⟨(h2 w (h1 w hC).1).1, fun k hk => (h1 w hC).2 k ((h2 w (h1 w hC).1).2 k hk)⟩
/-- What may be read here may be read there, told in other words. -/
theorem RoOk.roC {LC RoC : List Sp} {A B : Sp} (i : Nat) (hi : c.Ro[i]? = some B) (hAB : ∀ w, B.holds w → A.holds w ∧ ∀ k ∈ A.foot, k ∈ B.foot) (is : List Nat) (hL : LK.sel L is = LC) (h : RoOk c L LC RoC) : RoOk c L LC (A :: RoC) := fun ok w hs C hC => by
  rcases List.mem_cons.1 hC with rfl | hC
  · have h1 := RoOk.ro (RoC := []) i hi is hL RoOk.nil ok w hs B (by simp)
    exact ⟨(hAB w h1.1).1, fun k hk => h1.2 k ((hAB w h1.1).2 k hk)⟩
  · exact h ok w hs C hC

/-! ### A whole array, as a slice -/
theorem whole_elt {w : World} {g n : Nat} {f : α → Value} (h : (var g (l.map f) t).holds w) (hl : l.length = n) (hm : n ≤ maxLen) : Elt w (.slice (some ⟨g, 0, none⟩) n n) 1 (l.map fun x => [f x]) := by
  subst hl
  refine ⟨fun x hx => ?_, ⟨_, l.length, by rw [List.length_map], by rw [List.length_map]; exact Nat.le_refl _, hm⟩, fun _ => ⟨l.length, by rw [List.length_map]; rfl⟩, fun i e j u hi hj => ?_⟩
  · obtain ⟨y, _, rfl⟩ := List.mem_map.1 hx; rfl
  · rw [List.getElem?_map] at hi
    obtain ⟨y, hy, rfl⟩ := Option.map_eq_some_iff.1 hi
    have hj0 : j = 0 := by
      have := (List.getElem?_eq_some_iff.1 hj).1
      simp at this; exact this
    subst hj0
    simp at hj; subst hj
    have hh : w.heap[g]? = some (.cells (l.map f).toArray t (0, 0)) := h
    show w.cell? ⟨g, 0 + i * 1 + 0, none⟩ = _
    rw [cell_of_row w g _ _ t _ hh]
    simp [hy]
theorem Src.whole {g n : Nat} {f : α → Value} (i : Nat) (hi : L[i]? = some (var g (l.map f) t)) (hl : l.length = n) (hm : n ≤ maxLen) : Src c L (.slice (some ⟨g, 0, none⟩) n n) 1 (l.map fun x => [f x]) := fun _ w hs => whole_elt (hs.at_ _ (List.mem_of_getElem? hi)) hl hm
theorem Src.wholeRo {g n : Nat} {f : α → Value} (i : Nat) (hi : c.Ro[i]? = some (var g (l.map f) t)) (hl : l.length = n) (hm : n ≤ maxLen) : Src c L (.slice (some ⟨g, 0, none⟩) n n) 1 (l.map fun x => [f x]) := fun ok _ hs => whole_elt (c.ro ok hs hi) hl hm
end
end Go.LK

namespace Go.LK
open Go Go.RowKit

section
variable {c : Cx} {k : List It} {E : Env} {L : List Sp} {ty : TypeId} {v : Value} {x y : Operand} {T : TypeId}
theorem Pu.buildA {parts : List (Nat × Operand)} {n e s : Nat} (vs : List (Nat × Value)) (cs : List Value) {zv : Value} (hT : ∀ w, (underlying T).run c.P w = .ok (.array n e) w) (hz : ∀ w, (zeroValue T).run c.P w = .ok zv w) (hs : ∀ w, (sizeOf e).run c.P w = .ok s w)
    (hp : parts.map (fun p => (p.1, ev E p.2)) = vs.map (fun p => (p.1, some p.2))) (hf : Instr.fill (fun i => some (i * s, s)) zv.cells vs = some cs.toArray) : Pu c E (.build T parts.toArray) ty (.agg cs.toArray) := fun a w ha _ _ _ _ => by
  have hparts : parts.map (fun p => (p.1, a.eval p.2)) = vs := by
    clear hf
    induction parts generalizing vs with
    | nil => cases vs <;> simp_all
    | cons p parts ih =>
      cases vs with
      | nil => simp at hp
      | cons q vs =>
        simp only [List.map_cons, List.cons.injEq, Prod.mk.injEq] at hp ⊢
        obtain ⟨⟨h1, h2⟩, h3⟩ := hp
        refine ⟨?_, ih vs h3⟩
        rw [ha.ev h2, h1]
  simp only [execOp, List.map_toArray]
  simp [Instr.build, hT, hz, hparts, hs, hf]
theorem Pu.indexK {n e s : Nat} {kd : IntKind} {m : Int} {cs : List Value} (vs : List Value) (hT : ∀ w, (underlying T).run c.P w = .ok (.array n e) w) (hs : ∀ w, (sizeOf e).run c.P w = .ok s w) (hag : ∀ w, (isAgg e).run c.P w = .ok true w)
    (hx : ev E x = some (.agg cs.toArray)) (hy : ev E y = some (.int kd m)) (h0 : 0 ≤ m) (h1 : m < n) (hv : (cs.drop (m.toNat * s)).take s = vs) : Pu c E (.index T x y) ty (.agg vs.toArray) := fun a w ha _ _ _ _ => by
  subst hv
  simp [execOp, ha.ev hx, ha.ev hy, Instr.index, asIntOf, hT, hs, h0, h1, part, hag]

/-! ### Structs of integers, by the list -/
def vI (n : Int) : Value := .int .i64 n
def vS (l : List UInt8) : Value := str l
end
end Go.LK

namespace Go.LK
open Go Go.RowKit

def encB (b : UInt8) : List Value := [.int .u8 b.toNat]
theorem encB.one {l : List UInt8} : ∀ a ∈ l, (encB a).all Value.oneCell' = true := fun _ _ => rfl

section
variable {c : Cx} {k : List It} {E : Env} {L : List Sp} {ops : Array Oper} {rest : List Oper} {ty : TypeId} {v V : Value} {x y z : Operand} {T t S D : TypeId}

/-! ### Pointers -/

/-! ### Bits -/
end
end Go.LK
