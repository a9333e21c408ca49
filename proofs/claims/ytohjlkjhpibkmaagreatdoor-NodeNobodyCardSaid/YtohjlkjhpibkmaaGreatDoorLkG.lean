/-
  Several texts in one: Lk40, Lk41, Lk42, Lk43.
-/
import Derived.Test.YtohjlkjhpibkmaaGreatDoorLk9
import Derived.Test.YtohjlkjhpibkmaaGreatDoorLkD
import Derived.Test.YtohjlkjhpibkmaaGreatDoorLkF
import Derived.WideKeyEntry
namespace Go.LK
open Go Go.RowKit
/-- Where the fields of the program's structs lie. -/
class Fo (P : Program) where
  f : Nat → Nat → Option Nat
  ok : ∀ T i o, f T i = some o → ∃ fs fd s, (∀ w, (underlying T).run P w = .ok (.struct fs) w) ∧ fs[i]? = some fd ∧ (∀ w, (sizeOf fd.type).run P w = .ok s w) ∧ Nat.blt 0 s = true ∧ fd.offset = o
def FA (P : Program) (T i o : Nat) : Prop := ∃ fs fd s, (∀ w, (underlying T).run P w = .ok (.struct fs) w) ∧ fs[i]? = some fd ∧ (∀ w, (sizeOf fd.type).run P w = .ok s w) ∧ Nat.blt 0 s = true ∧ fd.offset = o
def fofL : List (Nat × Nat × Nat) → Nat → Nat → Option Nat
  | [], _, _ => none
  | (T, i, o) :: l, U, j => bif Nat.beq T U && Nat.beq i j then some o else fofL l U j
theorem fofL_ok {P : Program} : ∀ {l : List (Nat × Nat × Nat)}, (∀ e ∈ l, FA P e.1 e.2.1 e.2.2) → ∀ {T i o : Nat}, fofL l T i = some o → FA P T i o
  | [], _, _, _, _, h => by cases h
  | (T, i, o) :: l, ha, U, j, q, h => by
    unfold fofL at h
    cases hb : (Nat.beq T U && Nat.beq i j) with
    | true =>
      rw [hb] at h
      cases h
      simp only [Bool.and_eq_true] at hb
      obtain rfl := Nat.eq_of_beq_eq_true hb.1
      obtain rfl := Nat.eq_of_beq_eq_true hb.2
      exact ha _ (List.mem_cons_self ..)
    | false =>
      rw [hb] at h
      exact fofL_ok (fun e he => ha e (List.mem_cons_of_mem _ he)) h
@[reducible] def Fo.ofList {P : Program} (l : List (Nat × Nat × Nat)) (h : ∀ e ∈ l, FA P e.1 e.2.1 e.2.2) : Fo P := ⟨fofL l, fun _ _ _ hq => fofL_ok h hq⟩
def cmpV : BinOp → Int → Int → Option Bool
  | .lss, m, n => some (decide (m < n))
  | .leq, m, n => some (decide (m ≤ n))
  | .gtr, m, n => some (decide (n < m))
  | .geq, m, n => some (decide (n ≤ m))
  | .eql, m, n => some (decide (m = n))
  | .neq, m, n => some (decide (m ≠ n))
  | _, _, _ => none
def kdB : IntKind → IntKind → Bool
  | .i64, .i64 => true
  | .u8, .u8 => true
  | .u64, .u64 => true
  | .i32, .i32 => true
  | .u32, .u32 => true
  | .u16, .u16 => true
  | _, _ => false
theorem kdB_eq {a b : IntKind} (h : kdB a b = true) : a = b := by cases a <;> cases b <;> first | rfl | cases h
/-- What a pure operation yields. -/
def pureV (P : Program) [Fo P] (E : Env) : Op → Option Value
  | .move x => ev E x
  | .assign x => ev E x
  | .pick q x y => match ev E q with
    | some (.bool true) => ev E x
    | some (.bool false) => ev E y
    | _ => none
  | .nilCheck x => match ev E x with
    | some (.pointer (some a)) => some (.pointer (some a))
    | _ => none
  | .unOp .not _ x => match ev E x with
    | some (.bool b) => some (.bool !b)
    | _ => none
  | .binOp o T x y U => match ev E x, ev E y with
    | some (.int k m), some (.int k' n) => bif kdB k k' && Nat.beq T U then (match cmpV o m n with
      | some b => some (.bool b)
      | none => none) else none
    | _, _ => none
  | .extract x i => match ev E x with
    | some (.tuple a) => a.toList[i]?
    | _ => none
  | .fieldAddr T x i => match ev E x with
    | some (.pointer (some ⟨g, o, none⟩)) => match Fo.f P T i with
      | some q => some (.pointer (some ⟨g, o + q, none⟩))
      | none => none
    | _ => none
  | _ => none
theorem pureV_pu {c : Cx} [Fo c.P] {E : Env} {o : Op} {ty : TypeId} {v : Value} (h : pureV c.P E o = some v) : Pu c E o ty v := by
  unfold pureV at h
  split at h
  · exact Pu.move h
  · exact Pu.assign h
  · split at h
    · rename_i hq; exact Pu.pickT hq rfl h
    · rename_i hq; exact Pu.pickF hq rfl h
    · cases h
  · split at h
    · rename_i hq; cases h; exact Pu.nilCheck hq
    · cases h
  · split at h
    · rename_i hq; cases h; exact Pu.not hq
    · cases h
  · split at h
    · rename_i k m k' n hx hy
      cases hk : (kdB k k' && Nat.beq _ _) with
      | false => rw [hk] at h; cases h
      | true =>
        rw [hk] at h
        simp only [Bool.and_eq_true] at hk
        obtain rfl := kdB_eq hk.1
        obtain rfl := Nat.eq_of_beq_eq_true hk.2
        simp only [cond_true] at h
        split at h
        · rename_i b hb
          cases h
          unfold cmpV at hb
          split at hb <;> first | (cases hb; done) | skip
          all_goals (simp only [Option.some.injEq] at hb; subst hb)
          · exact Pu.lss hx hy
          · exact Pu.leq hx hy
          · exact Pu.gtr hx hy
          · exact Pu.geq hx hy
          · exact Pu.eql hx hy
          · exact Pu.neq hx hy
        · cases h
    · cases h
  · split at h
    · rename_i a hx
      exact Pu.extract (vs := a.toList) (by simpa using hx) h
    · cases h
  · split at h
    · rename_i g o hx
      split at h
      · rename_i q hq
        cases h
        obtain ⟨fs, fd, s, h1, h2, h3, h4, h5⟩ := Fo.ok _ _ _ hq
        exact Pu.fieldAddr h1 h2 h3 h4 hx (by rw [h5])
      · cases h
    · cases h
  · cases h
/-! ### The machine -/
inductive Ps where
  | ctl
  | ops (a : Array Oper) (l : List Oper)
def At (c : Cx) (p : Ps) (k : List It) (E : Env) (L : List Sp) : Prop := match p with
  | .ctl => J c k E L
  | .ops a l => O c a l k E L
/-- Is the guarded operation wanted? -/
def wantV (ops : Array Oper) (n : Nat) (E : Env) (j : Nat) (want : Bool) : Option Bool :=
  match (ops[j]?).bind (·.dst) with
  | some t => bif Nat.blt t n then (match look E t with
    | some (.bool true) => some want
    | some (.bool false) => some (!want)
    | some (.agg _) => some false
    | some v => (match boolOf v with
      | none => some false
      | some _ => none)
    | none => none) else none
  | none => none
def opsStep (P : Program) [Fo P] (n : Nat) (ops : Array Oper) (E : Env) : Oper → Option Env
  | ⟨some d, o, _, _, _, none⟩ => bif Nat.blt d n then (match pureV P E o with
    | some v => some ((d, v) :: E)
    | none => none) else none
  | ⟨some d, o, _, _, _, some (j, want)⟩ => bif Nat.blt d n then (match wantV ops n E j want with
    | some true => (match pureV P E o with
      | some v => some ((d, v) :: E)
      | none => none)
    | some false => some ((d, undef) :: E)
    | none => none) else none
  | _ => none
def ctlStep (E : Env) : List It → Option (Ps × List It)
  | .blk _ :: k => some (.ctl, k)
  | .scp :: k => some (.ctl, k)
  | .code q :: k => match q with
    | .seq x y => some (.ctl, .code x :: .code y :: k)
    | .block id x => some (.ctl, .code x :: .blk id :: k)
    | .scope x => some (.ctl, .code x :: .scp :: k)
    | .skip => some (.ctl, k)
    | .label _ => some (.ctl, k)
    | .exit id => (match pop id k with
      | some k' => some (.ctl, k')
      | none => none)
    | .cond x t f => (match ev E x with
      | some (.bool true) => some (.ctl, .code t :: k)
      | some (.bool false) => some (.ctl, .code f :: k)
      | _ => none)
    | .region _ ops false => some (.ops ops ops.toList, k)
    | _ => none
  | _ => none
def adv (P : Program) [Fo P] (n : Nat) : Nat → Ps → List It → Env → Option (Ps × List It × Env)
  | 0, p, k, E => some (p, k, E)
  | f + 1, .ctl, k, E => match ctlStep E k with
    | some (p, k') => adv P n f p k' E
    | none => none
  | f + 1, .ops _ [], k, E => adv P n f .ctl k E
  | f + 1, .ops a (o :: l), k, E => match opsStep P n a E o with
    | some E' => adv P n f (.ops a l) k E'
    | none => none
section
variable {c : Cx} {k k' : List It} {E E' : Env} {L : List Sp} {p p' : Ps} {ops : Array Oper}
theorem ctl_ok (h : ctlStep E k = some (p, k')) (hj : At c p k' E L) : J c k E L := by
  unfold ctlStep at h
  split at h
  · cases h; exact J.blk hj
  · cases h; exact J.scp hj
  · split at h
    · cases h; exact J.seq hj
    · cases h; exact J.block hj
    · cases h; exact J.scope hj
    · cases h; exact J.skip hj
    · cases h; exact J.label hj
    · split at h
      · rename_i hp; cases h; exact J.exit _ hp hj
      · cases h
    · split at h
      · rename_i hx; cases h; exact J.condT hx rfl hj
      · rename_i hx; cases h; exact J.condF hx rfl hj
      · cases h
    · rename_i ops
      cases h
      obtain ⟨l⟩ := ops
      exact J.region hj
    · cases h
  · cases h
theorem want_ok {a : Act} {n j : Nat} {want b : Bool} {o : Oper} (h : wantV ops n E j want = some b) (ha : Has n a E) (hg : o.guard = some (j, want)) : Region.wanted o (yielded ops a.tmps) = b := by
  unfold wantV at h
  split at h
  · rename_i t ht
    cases hb : Nat.blt t n with
    | false => rw [hb] at h; cases h
    | true =>
      rw [hb, cond_true] at h
      split at h
      · rename_i hl; cases h
        cases want
        · exact wanted_no ha hg ht hl (by simp [boolOf]) hb
        · exact wanted_yes ha hg ht hl hb
      · rename_i hl; cases h
        cases want
        · exact wanted_yes ha hg ht hl hb
        · exact wanted_no ha hg ht hl (by simp [boolOf]) hb
      · rename_i hl; cases h; exact wanted_no ha hg ht hl (by simp [boolOf]) hb
      · rename_i v hl
        split at h
        · rename_i hn; cases h; exact wanted_no ha hg ht hl (by rw [hn]; simp) hb
        · cases h
      · cases h
  · cases h
theorem ops_ok [Fo c.P] {o : Oper} {l : List Oper} (h : opsStep c.P c.n ops E o = some E') (hj : O c ops l k E' L) : O c ops (o :: l) k E L := by
  unfold opsStep at h
  split at h
  · rename_i d o _ _ _
    cases hd : Nat.blt d c.n with
    | false => rw [hd] at h; cases h
    | true =>
      rw [hd, cond_true] at h
      split at h
      · rename_i v hv; cases h; exact O.p (pureV_pu hv) hd hj
      · cases h
  · rename_i d o _ _ _ j want
    cases hd : Nat.blt d c.n with
    | false => rw [hd] at h; cases h
    | true =>
      rw [hd, cond_true] at h
      split at h
      · rename_i hw
        split at h
        · rename_i v hv; cases h
          exact fun ok a w ha hs => wpList_step fun _ hK => by
            rw [want_ok hw ha rfl, if_pos rfl]
            exact wp_of_run (pureV_pu hv a w ha _ _ _ _) (hK _ _ (hj ok _ w (ha.put v hd) hs))
        · cases h
      · rename_i hw
        cases h
        exact fun ok a w ha hs => wpList_step fun _ hK => by
          rw [want_ok hw ha rfl, if_neg (by simp)]
          exact hK _ _ (hj ok _ w (ha.put undef hd) hs)
      · cases h
  · cases h
theorem adv_ok [Fo c.P] : ∀ {f : Nat} {p : Ps} {k : List It} {E : Env}, adv c.P c.n f p k E = some (p', k', E') → At c p' k' E' L → At c p k E L
  | 0, p, k, E, h, hj => by cases h; exact hj
  | f + 1, .ctl, k, E, h, hj => by
    unfold adv at h
    split at h
    · rename_i hs; exact ctl_ok hs (adv_ok h hj)
    · cases h
  | f + 1, .ops a [], k, E, h, hj => O.nil (adv_ok (f := f) (p := .ctl) h hj)
  | f + 1, .ops a (o :: l), k, E, h, hj => by
    unfold adv at h
    split at h
    · rename_i hs; exact ops_ok hs (adv_ok (p := .ops a l) h hj)
    · cases h
/-- f steps on, from control to control. -/
theorem J.cc [Fo c.P] (f : Nat) (h : adv c.P c.n f .ctl k E = some (.ctl, k', E')) (hj : J c k' E' L) : J c k E L := adv_ok (p := .ctl) h hj
/-- .. into a region. -/
theorem J.co [Fo c.P] {a : Array Oper} {l : List Oper} (f : Nat) (h : adv c.P c.n f .ctl k E = some (.ops a l, k', E')) (hj : O c a l k' E' L) : J c k E L := adv_ok (p := .ctl) h hj
/-- .. out of a region. -/
theorem O.oc [Fo c.P] {a : Array Oper} {l : List Oper} (f : Nat) (h : adv c.P c.n f (.ops a l) k E = some (.ctl, k', E')) (hj : J c k' E' L) : O c a l k E L := adv_ok (p := .ops a l) h hj
/-- .. within regions. -/
theorem O.oo [Fo c.P] {a a' : Array Oper} {l l' : List Oper} (f : Nat) (h : adv c.P c.n f (.ops a l) k E = some (.ops a' l', k', E')) (hj : O c a' l' k' E' L) : O c a l k E L := adv_ok (p := .ops a l) h hj
end
end Go.LK

namespace Go.LK
open Go Go.RowKit
/-! ### Some of the atoms, computed -/
def memB (i : Nat) : List Nat → Bool
  | [] => false
  | j :: l => bif Nat.beq i j then true else memB i l
theorem memB_iff {i : Nat} : ∀ {l : List Nat}, memB i l = true ↔ i ∈ l
  | [] => by simp [memB]
  | j :: l => by
    unfold memB
    cases h : Nat.beq i j with
    | true => simp [Nat.eq_of_beq_eq_true h]
    | false =>
      have hne : ¬ i = j := fun e => by subst e; simp at h
      simp [hne, memB_iff (l := l)]
def ndB : List Nat → Bool
  | [] => true
  | i :: l => !memB i l && ndB l
theorem ndB_nodup : ∀ {l : List Nat}, ndB l = true → l.Nodup
  | [], _ => List.nodup_nil
  | i :: l, h => by
    simp only [ndB, Bool.and_eq_true, Bool.not_eq_true'] at h
    exact List.nodup_cons.2 ⟨fun hi => by rw [memB_iff.2 hi] at h; exact absurd h.1 (by simp), ndB_nodup h.2⟩
def selO (L : List Sp) : List Nat → Option (List Sp)
  | [] => some []
  | i :: is => match L[i]?, selO L is with
    | some A, some R => some (A :: R)
    | _, _ => none
theorem selO_sel {L : List Sp} : ∀ {is : List Nat} {R : List Sp}, selO L is = some R → LK.sel L is = R
  | [], R, h => by cases h; rfl
  | i :: is, R, h => by
    unfold selO at h
    split at h
    · rename_i A R' hA hR
      cases h
      have ih := selO_sel hR
      unfold LK.sel at ih ⊢
      rw [List.filterMap_cons, hA, ih]
    · cases h
def selN (L : List Sp) (is : List Nat) : Option (List Sp) := bif ndB is then selO L is else none
theorem selN_ok {L R : List Sp} {is : List Nat} (h : selN L is = some R) : is.Nodup ∧ LK.sel L is = R := by
  unfold selN at h
  cases hb : ndB is with
  | true => rw [hb] at h; exact ⟨ndB_nodup hb, selO_sel h⟩
  | false => rw [hb] at h; cases h
def restI (is : List Nat) : Nat → List Sp → List Nat
  | _, [] => []
  | i, _ :: L => bif memB i is then restI is (i + 1) L else i :: restI is (i + 1) L
def splitO (L : List Sp) (is : List Nat) : Option (List Sp × List Sp) := bif ndB (is ++ restI is 0 L) then (match selO L is, selO L (restI is 0 L) with
  | some A, some B => some (A, B)
  | _, _ => none) else none
theorem splitO_ok {L A B : List Sp} {is : List Nat} (h : splitO L is = some (A, B)) : (is ++ restI is 0 L).Nodup ∧ LK.sel L is = A ∧ LK.sel L (restI is 0 L) = B := by
  unfold splitO at h
  cases hb : ndB (is ++ restI is 0 L) with
  | true =>
    rw [hb, cond_true] at h
    split at h
    · rename_i A' B' h1 h2
      cases h
      exact ⟨ndB_nodup hb, selO_sel h1, selO_sel h2⟩
    · cases h
  | false => rw [hb] at h; cases h
def evs (E : Env) : List Operand → Option (List Value)
  | [] => some []
  | x :: xs => match ev E x, evs E xs with
    | some v, some vs => some (v :: vs)
    | _, _ => none
theorem evs_ok {E : Env} : ∀ {xs : List Operand} {vs : List Value}, evs E xs = some vs → xs.map (ev E) = vs.map some
  | [], vs, h => by cases h; rfl
  | x :: xs, vs, h => by
    unfold evs at h
    split at h
    · rename_i v vs' h1 h2
      cases h
      rw [List.map_cons, List.map_cons, h1, evs_ok h2]
    · cases h
/-! ### Values' cells, computed -/
def cellsO : Value → Option (List Value)
  | .agg a => some a.toList
  | .int k n => some [.int k n]
  | .bool b => some [.bool b]
  | .string s => some [.string s]
  | .pointer p => some [.pointer p]
  | .slice a n m => some [.slice a n m]
  | .func f x y => some [.func f x y]
  | .map m => some [.map m]
  | _ => none
theorem cellsO_ok {u : Value} {vs : List Value} (h : cellsO u = some vs) : u.cells = vs.toArray := by
  unfold cellsO at h
  split at h <;> cases h <;> first | rfl | simp [Value.cells]
def takeO : List Value → Nat → Nat → Option (List Value)
  | _, 0, 0 => some []
  | v :: cs, 0, n + 1 => match takeO cs 0 n with
    | some vs => some (v :: vs)
    | none => none
  | _ :: cs, m + 1, n => takeO cs m n
  | [], _, _ => none
theorem takeO_ok : ∀ {cs : List Value} {m n : Nat} {vs : List Value}, takeO cs m n = some vs → (cs.drop m).take n = vs ∧ vs.length = n
  | cs, 0, 0, vs, h => by
    have : takeO cs 0 0 = some [] := by cases cs <;> rfl
    rw [this] at h; cases h; simp
  | v :: cs, 0, n + 1, vs, h => by
    rw [takeO] at h
    split at h
    · rename_i ws hw
      cases h
      obtain ⟨h1, h2⟩ := takeO_ok hw
      simp only [List.drop_zero] at h1 ⊢
      rw [List.take_succ_cons, h1, List.length_cons, h2]
      exact ⟨rfl, rfl⟩
    · cases h
  | v :: cs, m + 1, n, vs, h => by
    rw [takeO] at h
    · have := takeO_ok h
      simpa using this
  | [], 0, n + 1, vs, h => by simp [takeO] at h
  | [], m + 1, n, vs, h => by simp [takeO] at h
def spliceO : List Value → Nat → List Value → Option (List Value)
  | cs, 0, [] => some cs
  | _ :: cs, 0, v :: vs => match spliceO cs 0 vs with
    | some r => some (v :: r)
    | none => none
  | x :: cs, n + 1, vs => match spliceO cs n vs with
    | some r => some (x :: r)
    | none => none
  | [], _, _ => none
theorem spliceO_ok : ∀ {cs : List Value} {m : Nat} {vs r : List Value}, spliceO cs m vs = some r → cs.take m ++ vs ++ cs.drop (m + vs.length) = r ∧ m + vs.length ≤ cs.length
  | cs, 0, [], r, h => by
    have : spliceO cs 0 [] = some cs := by cases cs <;> rfl
    rw [this] at h; cases h; simp
  | x :: cs, 0, v :: vs, r, h => by
    rw [spliceO] at h
    split at h
    · rename_i q hq
      cases h
      obtain ⟨h1, h2⟩ := spliceO_ok hq
      simp only [List.take_zero, List.nil_append, Nat.zero_add] at h1 h2 ⊢
      rw [List.length_cons, List.drop_succ_cons, List.cons_append, h1]
      exact ⟨rfl, by simp only [List.length_cons]; omega⟩
    · cases h
  | x :: cs, n + 1, vs, r, h => by
    rw [spliceO] at h
    split at h
    · rename_i q hq
      cases h
      obtain ⟨h1, h2⟩ := spliceO_ok hq
      rw [List.take_succ_cons, show n + 1 + vs.length = (n + vs.length) + 1 from by omega, List.drop_succ_cons, List.cons_append, List.cons_append, h1]
      exact ⟨rfl, by simp only [List.length_cons]; omega⟩
    · cases h
  | [], 0, v :: vs, r, h => by simp [spliceO] at h
  | [], n + 1, vs, r, h => by simp [spliceO] at h
section
variable {c : Cx} {k : List It} {E : Env} {L : List Sp} {ops : Array Oper} {rest : List Oper} {o : Op} {ty : TypeId} {d : Nat} {pos : String} {af : Array Edge} {v V : Value} {x y z : Operand} {T t : TypeId} {s : Nat}
variable {α : Type} {f : α → List Value} {l : List α}
/-! ### Loads -/
theorem Qt.lv (i : Nat) {g off : Nat} {cs : List Value} (hA : ∀ w, (isAgg T).run c.P w = .ok false w) (hx : ev E x = some (.pointer (some ⟨g, off, none⟩))) (hi : L[i]? = some (var g cs t)) (hv : cs[off]? = some v) : Qt c E L (.load T x) ty v :=
  Qt.ld hx (Cel.var i hi) (Nat.zero_add off).symm (Cut.one hA hv)
theorem Qt.lva (i : Nat) {g off n : Nat} {cs vs : List Value} (hA : ∀ w, (isAgg T).run c.P w = .ok true w) (hs : ∀ w, (sizeOf T).run c.P w = .ok n w) (hx : ev E x = some (.pointer (some ⟨g, off, none⟩))) (hi : L[i]? = some (var g cs t)) (hv : takeO cs off n = some vs) : Qt c E L (.load T x) ty (.agg vs.toArray) :=
  Qt.ld hx (Cel.var i hi) (Nat.zero_add off).symm (Cut.agg vs hA hs (takeO_ok hv).1 (takeO_ok hv).2)
theorem Qt.le {j p : Nat} {a : α} (hA : ∀ w, (isAgg T).run c.P w = .ok false w) (hs : Src c L V s (l.map f)) (hj : l[j]? = some a) (off : Nat) (hx : ev E x = some (.pointer (some ⟨vblk V, p, none⟩))) (hp : p = voff V + j * s + off) (hv : (f a)[off]? = some v) : Qt c E L (.load T x) ty v :=
  Qt.ld hx (Cel.eltM hs hj) hp (Cut.one hA hv)
theorem Qt.lea {j p n : Nat} {a : α} {vs : List Value} (hA : ∀ w, (isAgg T).run c.P w = .ok true w) (hz : ∀ w, (sizeOf T).run c.P w = .ok n w) (hs : Src c L V s (l.map f)) (hj : l[j]? = some a) (off : Nat) (hx : ev E x = some (.pointer (some ⟨vblk V, p, none⟩))) (hp : p = voff V + j * s + off) (hv : takeO (f a) off n = some vs) : Qt c E L (.load T x) ty (.agg vs.toArray) :=
  Qt.ld hx (Cel.eltM hs hj) hp (Cut.agg vs hA hz (takeO_ok hv).1 (takeO_ok hv).2)
theorem Qt.ix {e j : Nat} {m : Int} {a : α} (hT : ∀ w, (underlying T).run c.P w = .ok (.slice e) w) (hz : ∀ w, (sizeOf e).run c.P w = .ok s w) (hx : ev E x = some V) (hs : Src c L V s (l.map f)) (hj : l[j]? = some a) (hy : ev E y = some (.int .i64 m)) (hm : m = (j : Int)) :
    Qt c E L (.indexAddr T x y) ty (.pointer (some ⟨vblk V, voff V + m.toNat * s, none⟩)) := Qt.idxM hT hz hx hs hy (by omega) (by have := (List.getElem?_eq_some_iff.1 hj).1; omega)
/-! ### Guards that are so -/
theorem O.gz {j : Nat} {want : Bool} (hq : Qt c E L o ty v) (hw : wantV ops c.n E j want = some true) (hd : Nat.blt d c.n = true) (h : O c ops rest k ((d, v) :: E) L) : O c ops (⟨some d, o, ty, pos, af, some (j, want)⟩ :: rest) k E L := fun ok a w ha hs =>
  wpList_step fun _ hK => by
    rw [want_ok hw ha rfl, if_pos rfl]
    exact wp_of_run (hq ok a w ha hs _ _ _ _) (hK _ _ (h ok _ w (ha.put v hd) hs))
theorem O.gy {j : Nat} {want : Bool} {Q : Value → List Sp → Prop} (hl : Lo c E L o ty Q) (hw : wantV ops c.n E j want = some true) (hd : Nat.blt d c.n = true) (h : ∀ v L', Q v L' → O c ops rest k ((d, v) :: E) L') : O c ops (⟨some d, o, ty, pos, af, some (j, want)⟩ :: rest) k E L := fun ok a w ha hs =>
  wpList_step fun _ hK => by
    rw [want_ok hw ha rfl, if_pos rfl]
    exact hl ok a w ha hs _ _ _ _ _ _ fun v L' w' hR hs' => hK _ _ (h v L' hR ok _ w' (ha.put v hd) hs')
theorem S.gz {T' : World → Act → Prop} {j : Nat} {want : Bool} (hq : Qt c E L o ty v) (hw : wantV ops c.n E j want = some true) (hd : Nat.blt d c.n = true) (h : S c ops T' rest ((d, v) :: E) L) : S c ops T' (⟨some d, o, ty, pos, af, some (j, want)⟩ :: rest) E L := fun ok a w ha hs =>
  wpStill_step fun _ hK => by
    rw [want_ok hw ha rfl, if_pos rfl]
    exact still_of_run (hq ok a w ha hs _ _ _ _) (hK _ (h ok _ w (ha.put v hd) hs))
theorem Mx.gz {T' : Env → List Sp → Prop} {K : List Sp} {i j : Nat} {want : Bool} {seen : List Nat} {rest : List (Nat × Bool)} (hq : Qt c E K o ty v) (hi : ops[i]? = some ⟨some d, o, ty, pos, af, some (j, want)⟩) (hw : wantV ops c.n E j want = some true) (hd : Nat.blt d c.n = true) (h : Mx c ops T' (i :: seen) rest ((d, v) :: E) K L) : Mx c ops T' seen ((i, false) :: rest) E K L :=
  ⟨_, d, v, hi, rfl, hd, fun ok a w ha hs => .inl ⟨want_ok hw ha rfl, .inl (hq ok a w ha hs _ _ _ _)⟩, (fun h_ => absurd h_ (by simp [pureO])), h⟩
theorem Mx.gy {T' : Env → List Sp → Prop} {K : List Sp} {i j : Nat} {want : Bool} {Q : Value → List Sp → Prop} {seen : List Nat} {rest : List (Nat × Bool)} (hl : Lo c E L o ty Q) (hi : ops[i]? = some ⟨some d, o, ty, pos, af, some (j, want)⟩) (hw : wantV ops c.n E j want = some true) (hd : Nat.blt d c.n = true)
    (h : ∀ v L', Q v L' → MxK c ops T' i seen rest ((d, v) :: E) K L') : Mx c ops T' seen ((i, true) :: rest) E K L :=
  ⟨_, hi, fun d' hd' => by cases hd'; exact hd, fun ok a w ha hs => .inl ⟨want_ok hw ha rfl, hl ok a w ha hs _ _ _ _ _ _ fun v L' _ hR hs' => ⟨v, L', rfl, h v L' hR, hs'⟩⟩⟩
/-! ### New variables, stores -/
theorem Lo.al {u : Value} {cs : List Value} (hz : ∀ w, (zeroValue T).run c.P w = .ok u w) (hc : cellsO u = some cs) : Lo c E L (.alloc T) ty fun v L' => ∃ g, v = .pointer (some ⟨g, 0, none⟩) ∧ L' = var g cs T :: L := Lo.alloc cs hz (cellsO_ok hc)
theorem Lo.bx {u : Value} {cs : List Value} (hx : ev E x = some u) (hc : cellsO u = some cs) : Lo c E L (.box T x) ty fun v L' => ∃ g, v = .pointer (some ⟨g, 0, none⟩) ∧ L' = var g cs T :: L := Lo.box cs hx (cellsO_ok hc)
theorem Lo.st (i : Nat) {g off sz : Nat} {cs vs cs' : List Value} {u : Value} (hs : ∀ w, (sizeOf T).run c.P w = .ok sz w) (hx : ev E x = some (.pointer (some ⟨g, off, none⟩))) (hy : ev E y = some u) (hi : L[i]? = some (var g cs t))
    (hc : cellsO u = some vs) (hl : vs.length = sz) (h1 : (vs.all Value.oneCell') = true) (hcs : spliceO cs off vs = some cs') :
    Lo c E L (.store T x y) ty fun _ L' => L' = L.set i (var g cs' t) :=
  Lo.store i cs' hx hy hi hs (cellsO_ok hc) hl h1 (spliceO_ok hcs).1 (Nat.ble_eq_true_of_le (by have := (spliceO_ok hcs).2; omega))
/-- A value of one cell that is held opaque. -/
theorem Lo.so (i : Nat) {g off : Nat} {cs cs' : List Value} {u : Value} (hs : ∀ w, (sizeOf T).run c.P w = .ok 1 w) (h1 : u.oneCell' = true) (hx : ev E x = some (.pointer (some ⟨g, off, none⟩))) (hy : ev E y = some u) (hi : L[i]? = some (var g cs t))
    (hcs : spliceO cs off [u] = some cs') : Lo c E L (.store T x y) ty fun _ L' => L' = L.set i (var g cs' t) :=
  Lo.store i cs' hx hy hi hs (one_cells h1) rfl (one_all h1) (spliceO_ok hcs).1 (Nat.ble_eq_true_of_le (by have := (spliceO_ok hcs).2; simpa using this))
/-! ### Calls -/
/-- What the callee may read, whatever it is handed. -/
def RoK (c : Cx) (L : List Sp) (is : List Nat) (RoC : List Sp) : Prop := ∀ LC, LK.sel L is = LC → RoOk c L LC RoC
variable {is : List Nat} {RoC LC R : List Sp} {A B : Sp}
theorem RoK.nil : RoK c L is [] := fun _ _ => RoOk.nil
theorem RoK.ro (i : Nat) (hi : c.Ro[i]? = some A) (h : RoK c L is RoC) : RoK c L is (A :: RoC) := fun LC hL => RoOk.ro i hi is hL (h LC hL)
theorem RoK.of (j : Nat) (hAB : ∀ w, B.holds w → A.holds w ∧ ∀ k ∈ A.foot, k ∈ B.foot) (hj : L[j]? = some B) (hn : memB j is = false) (h : RoK c L is RoC) : RoK c L is (A :: RoC) := fun LC hL => RoOk.of j hj hAB is (fun hm => by rw [memB_iff.2 hm] at hn; cases hn) hL (h LC hL)
theorem RoK.own (j : Nat) (hj : L[j]? = some A) (hn : memB j is = false) (h : RoK c L is RoC) : RoK c L is (A :: RoC) := RoK.of j same_rd hj hn h
theorem Lo.ca {f : FuncId} {xs : List Operand} {ts : Array TypeId} {vs : List Value} {post : Value → List Sp → Prop} (hcall : ∀ args w, (callFunc f args).run c.P w = .ok (.enter f args) w) (ht : Tri c.P f vs.toArray RoC LC post) (is : List Nat)
    (hxs : evs E xs = some vs) (hS : splitO L is = some (LC, R)) (hro : RoK c L is RoC) :
    Lo c E L (.call { callee := .value (.func f), args := xs.toArray, argTypes := ts }) ty fun v L' => ∃ Lp, post v Lp ∧ L' = Lp ++ R :=
  Lo.call vs hcall (evs_ok hxs) ht is (restI is 0 L) (splitO_ok hS).1 (splitO_ok hS).2.1 R (splitO_ok hS).2.2 (hro LC (splitO_ok hS).2.1)
theorem Lo.cv {f : FuncId} {xs : List Operand} {ts : Array TypeId} {vs caps : List Value} {post : Value → List Sp → Prop} (hcall : ∀ args w, (callFunc f args).run c.P w = .ok (.enter f args) w) (hx : ev E x = some (.func (.func f) #[] caps.toArray)) (hxs : evs E xs = some vs) (ht : Tri c.P f (vs ++ caps).toArray RoC LC post) (is : List Nat)
    (hS : splitO L is = some (LC, R)) (hro : RoK c L is RoC) :
    Lo c E L (.call { callee := .value x, args := xs.toArray, argTypes := ts }) ty fun v L' => ∃ Lp, post v Lp ∧ L' = Lp ++ R :=
  Lo.callV hcall hx (evs_ok hxs) ht is (restI is 0 L) (splitO_ok hS).1 (splitO_ok hS).2.1 R (splitO_ok hS).2.2 (hro LC (splitO_ok hS).2.1)
theorem Lo.cb {f : FuncId} {xs : List Operand} {ts : Array TypeId} {first vs caps : List Value} {post : Value → List Sp → Prop} (hcall : ∀ args w, (callFunc f args).run c.P w = .ok (.enter f args) w) (hx : ev E x = some (.func (.func f) first.toArray caps.toArray)) (hxs : evs E xs = some vs) (ht : Tri c.P f (first ++ vs ++ caps).toArray RoC LC post) (is : List Nat)
    (hS : splitO L is = some (LC, R)) (hro : RoK c L is RoC) :
    Lo c E L (.call { callee := .value x, args := xs.toArray, argTypes := ts }) ty fun v L' => ∃ Lp, post v Lp ∧ L' = Lp ++ R :=
  Lo.callB hcall hx (evs_ok hxs) ht is (restI is 0 L) (splitO_ok hS).1 (splitO_ok hS).2.1 R (splitO_ok hS).2.2 (hro LC (splitO_ok hS).2.1)
/-! ### Cases: what is looked at stands in its slot as it is -/
variable {b : Bool} {p : Prop} [Decidable p]
theorem put_eq {n : Nat} {a : Act} (ha : Has n a E) {q : Value} (hq : look E d = some q) : Has n a ((d, q) :: E) := ⟨ha.size, ha.defers, fun t u hu => by
  rw [look_cons] at hu
  by_cases e : d = t
  · rw [if_pos e] at hu; cases hu; exact ha.at_ t _ (e ▸ hq)
  · rw [if_neg e] at hu; exact ha.at_ t u hu⟩
theorem O.sp (d : Nat) (hb : look E d = some (.bool b)) (h1 : b = true → O c ops rest k ((d, .bool true) :: E) L) (h2 : b = false → O c ops rest k ((d, .bool false) :: E) L) : O c ops rest k E L := fun ok a w ha hs => by
  cases hq : b with
  | true => rw [hq] at hb; exact h1 hq ok a w (put_eq ha hb) hs
  | false => rw [hq] at hb; exact h2 hq ok a w (put_eq ha hb) hs
theorem O.sd (d : Nat) (hb : look E d = some (.bool (decide p))) (h1 : p → O c ops rest k ((d, .bool true) :: E) L) (h2 : ¬ p → O c ops rest k ((d, .bool false) :: E) L) : O c ops rest k E L := O.sp d hb (fun h => h1 (of_decide_eq_true h)) (fun h => h2 (of_decide_eq_false h))
theorem S.sp {T' : World → Act → Prop} (d : Nat) (hb : look E d = some (.bool b)) (h1 : b = true → S c ops T' rest ((d, .bool true) :: E) L) (h2 : b = false → S c ops T' rest ((d, .bool false) :: E) L) : S c ops T' rest E L := fun ok a w ha hs => by
  cases hq : b with
  | true => rw [hq] at hb; exact h1 hq ok a w (put_eq ha hb) hs
  | false => rw [hq] at hb; exact h2 hq ok a w (put_eq ha hb) hs
theorem S.sd {T' : World → Act → Prop} (d : Nat) (hb : look E d = some (.bool (decide p))) (h1 : p → S c ops T' rest ((d, .bool true) :: E) L) (h2 : ¬ p → S c ops T' rest ((d, .bool false) :: E) L) : S c ops T' rest E L := S.sp d hb (fun h => h1 (of_decide_eq_true h)) (fun h => h2 (of_decide_eq_false h))
theorem J.cd {x : Operand} {t' f' : Code} (hx : ev E x = some (.bool (decide p))) (ht : p → J c (.code t' :: k) E L) (hf : ¬ p → J c (.code f' :: k) E L) : J c (.code (.cond x t' f') :: k) E L := J.cond hx (fun h => ht (of_decide_eq_true h)) (fun h => hf (of_decide_eq_false h))
theorem ex_at {i : Nat} (h : i < l.length) : ∃ x, l[i]? = some x := ⟨_, List.getElem?_eq_getElem h⟩
end
def evP (E : Env) : List (Nat × Operand) → Option (List (Nat × Value))
  | [] => some []
  | (i, x) :: xs => match ev E x, evP E xs with
    | some v, some vs => some ((i, v) :: vs)
    | _, _ => none
theorem evP_ok {E : Env} : ∀ {xs : List (Nat × Operand)} {vs : List (Nat × Value)}, evP E xs = some vs → xs.map (fun p => (p.1, ev E p.2)) = vs.map (fun p => (p.1, some p.2))
  | [], vs, h => by cases h; rfl
  | (i, x) :: xs, vs, h => by
    unfold evP at h
    split at h
    · rename_i v vs' h1 h2
      cases h
      rw [List.map_cons, List.map_cons, h1, evP_ok h2]
    · cases h
section
variable {c : Cx} {E : Env} {L : List Sp} {ty : TypeId} {V : Value} {x y : Operand} {T t : TypeId} {s : Nat} {α : Type} {f : α → List Value} {l : List α}
theorem Lo.bm {n : Nat} {parts : List (Nat × Operand)} (f : α → List Value) (l : List α) {vs : List (Nat × Value)} {zv : Value} (hT : ∀ w, (underlying T).run c.P w = .ok (.slice t) w) (hs : ∀ w, (sizeOf t).run c.P w = .ok s w) (hz : ∀ w, (zeroValue t).run c.P w = .ok zv w)
    (hp : evP E parts = some vs) (hn : Nat.ble (n * s) 16777216 = true) (hn0 : Nat.blt 0 (n * s) = true)
    (hf : Instr.fill (fun i => some (i * s, s)) ((Array.range (n * s)).map (zv.cells[· % zv.cells.size]!)) vs = some (l.map f).flatten.toArray) (hl : (l.map f).length = n) (hle : ((l.map f).all (fun e => e.length == s)) = true) :
    Lo c E L (.buildSlice T n parts.toArray) ty fun v L' => L' = row v t s (l.map f) :: L := Lo.buildM f l vs hT hs hz (evP_ok hp) hn hn0 hf hl hle
theorem Lo.am (i : Nat) {Y : Value} {l' : List α} {e : TypeId} {inf : TypeInfo} {zv : Value} {bytes : Nat} (hT : c.P.underlying T = some (.slice t)) (hinf : c.P.info? t = some inf ∧ inf.zero = some zv ∧ inf.size = s ∧ inf.bytes = bytes) (hzs : zv.cells.size = s) (hs0 : Nat.blt 0 s = true)
    (hx : ev E x = some V) (hi : L[i]? = some (row V t s (l.map f))) (hy : ev E y = some Y) (hs : Src c L Y s (l'.map f)) (h1 : ∀ a ∈ l', (f a).all Value.oneCell' = true)
    (h63 : l.length + l'.length ≤ 9223372036854775807) (hb : (l.length + l'.length) * bytes ≤ 140737488355328) :
    Lo c E L (.call { callee := .builtin .append, args := #[x, y], argTypes := #[T, T] }) e fun v L' => L' = L.set i (row v t s ((l ++ l').map f)) :=
  Lo.appendM i hT hinf.1 hinf.2.1 hinf.2.2.1 hinf.2.2.2 hzs hs0 hx hi hy hs h1 h63 hb
end
theorem J.nr {c : Cx} {k : List It} {E : Env} {L : List Sp} (t s : Nat) (els : List (List Value)) (he : els = []) (h : J c k E (row (.slice none 0 0) t s els :: L)) : J c k E L := J.nilRow t s (he ▸ h)
theorem O.nr {c : Cx} {k : List It} {E : Env} {L : List Sp} {ops : Array Oper} {rest : List Oper} (t s : Nat) (els : List (List Value)) (he : els = []) (h : O c ops rest k E (row (.slice none 0 0) t s els :: L)) : O c ops rest k E L := O.nilRow t s (he ▸ h)
theorem J.dm {c : Cx} {k : List It} {E : Env} {L K : List Sp} {id : Nat} {l : List Oper} (ord : List (Nat × Bool)) (is : List Nat) (hm : c.P.follows .mixedOrders = true) (hB : mixB l.toArray ord = true) (hL : selN L is = some K)
    (h : Mx c l.toArray (fun E' L' => J c k E' L') [] ord E K L) : J c (.code (.region id l.toArray true) :: k) E L := J.drawMix ord is K hm hB (selN_ok hL).1 (selN_ok hL).2 h
theorem A.mx {c : Cx} {k : List It} {E : Env} {L K : List Sp} {l : List Oper} (ord : List (Nat × Bool)) (is : List Nat) (hB : mixB l.toArray ord = true) (hL : selN L is = some K)
    (h : Mx c l.toArray (fun E' L' => J c k E' L') [] ord E K L) : A c l k E L := A.mix ord is K hB (selN_ok hL).1 (selN_ok hL).2 h
theorem MxK.gp {c : Cx} {E : Env} {K K' L' : List Sp} {ops : Array Oper} {T' : Env → List Sp → Prop} {i : Nat} {seen : List Nat} {rest : List (Nat × Bool)} (is js : List Nat) (hL : selN L' is = some K') (hK : selN K' js = some K) (h : Mx c ops T' (i :: seen) rest E K' L') : MxK c ops T' i seen rest E K L' :=
  MxK.go is js K' (selN_ok hL).1 (selN_ok hL).2 (selN_ok hK).1 (selN_ok hK).2 h
theorem MxK.al {c : Cx} {E : Env} {K K' L' : List Sp} {ops : Array Oper} {T' : Env → List Sp → Prop} {i : Nat} {seen : List Nat} {rest : List (Nat × Bool)} (is : List Nat) (hL : selN L' is = some K') (hw : allB ops i seen = true) (h : Mx c ops T' (i :: seen) rest E K' L') : MxK c ops T' i seen rest E K L' :=
  MxK.all is K' (selN_ok hL).1 (selN_ok hL).2 hw h
/-! ### Ends -/
section
variable {w : World} {M : List Nat} {post : Value → List Sp → Prop} {P : Program} {fn : Func} {n : Nat} {Ro : List Sp} {rs : List ResultVar} {E : Env} {L L' : List Sp} {k : List It}
theorem J.rn (vs : List Value) (is : List Nat) (hr : fn.results = rs.toArray) (hv : RVs ⟨P, fn, n, w, M, Ro, endPost w M post⟩ E L rs vs) (hL : selN L is = some L') (h : post (vOf vs) L') : J ⟨P, fn, n, w, M, Ro, endPost w M post⟩ (.code .ret :: k) E L :=
  J.ret (Fin.ret hr vs hv is (selN_ok hL).1 L' (selN_ok hL).2 h)
theorem J.r1 {t : Nat} {v : Value} (is : List Nat) (hr : fn.results = #[.tmp t]) (hv : look E t = some v) (hL : selN L is = some L') (h : post (vOf [v]) L') : J ⟨P, fn, n, w, M, Ro, endPost w M post⟩ (.code .ret :: k) E L :=
  J.rn (rs := [.tmp t]) [v] is hr ⟨hv, trivial⟩ hL h
theorem J.r0 {t : Nat} {v : Value} (hr : fn.results = #[.tmp t]) (hv : look E t = some v) (h : post (vOf [v]) []) : J ⟨P, fn, n, w, M, Ro, endPost w M post⟩ (.code .ret :: k) E L := J.r1 [] hr hv rfl h
theorem J.dn (vs : List Value) (is : List Nat) (hr : fn.results = rs.toArray) (hv : RVs ⟨P, fn, n, w, M, Ro, endPost w M post⟩ E L rs vs) (hL : selN L is = some L') (h : post (vOf vs) L') : J ⟨P, fn, n, w, M, Ro, endPost w M post⟩ [] E L :=
  J.done (Fin.ret hr vs hv is (selN_ok hL).1 L' (selN_ok hL).2 h)
theorem Tri.en {f : FuncId} {body : Code} {args : List Value} (hf : P.funcs[f]? = some fn) (hb : fn.body = some body) (hn : fn.ntmps = n) (hle : Nat.ble args.length n = true)
    (h : ∀ w, J { P := P, fn := fn, n := n, w0 := w, M := feet L, Ro := Ro, R := endPost w (feet L) post } [.code body] (envOf 0 args) L) : Tri P f args.toArray Ro L post := Tri.enter n hf hb hn hle h
end
/-! ### Loops: what is not named stays as it is -/
def pickO (E : Env) : List Nat → Option Env
  | [] => some []
  | t :: ts => match look E t, pickO E ts with
    | some v, some P => some ((t, v) :: P)
    | _, _ => none
theorem pickO_sub {E : Env} : ∀ {ts : List Nat} {P : Env}, pickO E ts = some P → Sub P E
  | [], P, h => by cases h; trivial
  | t :: ts, P, h => by
    unfold pickO at h
    split at h
    · rename_i v P' h1 h2
      cases h
      exact ⟨h1, pickO_sub h2⟩
    · cases h
theorem Sub.app {E : Env} : ∀ {A B : Env}, Sub A E → Sub B E → Sub (A ++ B) E
  | [], _, _, h => h
  | (_, _) :: A, _, ⟨h1, h2⟩, h => ⟨h1, Sub.app (A := A) h2 h⟩
section
variable {c : Cx} {k : List It} {E P : Env} {L R : List Sp}
theorem sel_app {L : List Sp} {is js : List Nat} : LK.sel L (is ++ js) = LK.sel L is ++ LK.sel L js := by simp [LK.sel]
def selN2 (L : List Sp) (is js : List Nat) : Option (List Sp × List Sp) := bif ndB (is ++ js) then (match selO L is, selO L js with
  | some A, some B => some (A, B)
  | _, _ => none) else none
theorem selN2_ok {L A B : List Sp} {is js : List Nat} (h : selN2 L is js = some (A, B)) : (is ++ js).Nodup ∧ LK.sel L is = A ∧ LK.sel L js = B := by
  unfold selN2 at h
  cases hb : ndB (is ++ js) with
  | true =>
    rw [hb, cond_true] at h
    split at h
    · rename_i A' B' h1 h2
      cases h
      exact ⟨ndB_nodup hb, selO_sel h1, selO_sel h2⟩
    · cases h
  | false => rw [hb] at h; cases h
theorem J.lo {X : Type} (φ : X → Prop) (EE : X → Env) (LL : X → List Sp) (μ : X → Nat) {x : Code} (x0 : X) (ts is js : List Nat) (h0 : φ x0) (hE : Sub (EE x0) E) (hP : pickO E ts = some P) (hL : selN2 L is js = some (LL x0, R))
    (round : ∀ y, φ y → J c (.code x :: .lp (inv c φ (fun y => EE y ++ P) (fun y => LL y ++ R) μ (μ y)) :: k) (EE y ++ P) (LL y ++ R)) : J c (.code (.loop x) :: k) E L :=
  J.loop φ (fun y => EE y ++ P) (fun y => LL y ++ R) μ x0 h0 (Sub.app hE (pickO_sub hP)) (is ++ js) (selN2_ok hL).1 (by rw [sel_app, (selN2_ok hL).2.1, (selN2_ok hL).2.2]) round
theorem J.lq {X : Type} {φ : X → Prop} {EE : X → Env} {LL : X → List Sp} {μ : X → Nat} {m : Nat} (y : X) (ts is js : List Nat) (hφ : φ y) (hm : μ y < m) (hE : Sub (EE y) E) (hP : pickO E ts = some P) (hL : selN2 L is js = some (LL y, R)) :
    J c (.lp (inv c φ (fun y => EE y ++ P) (fun y => LL y ++ R) μ m) :: k) E L := J.lp y hφ hm (Sub.app hE (pickO_sub hP)) (is ++ js) (selN2_ok hL).1 (by rw [sel_app, (selN2_ok hL).2.1, (selN2_ok hL).2.2])
theorem eqi {kd : IntKind} {a b : Int} (h : a = b) : some (Value.int kd a) = some (Value.int kd b) := by rw [h]
end
/-! ### Runs in the other kinds of regions -/
section
variable {c : Cx} {E E' : Env} {L K : List Sp} {ops : Array Oper}
def advS (P : Program) [Fo P] (n : Nat) (ops : Array Oper) : Nat → List Oper → Env → Option (List Oper × Env)
  | 0, l, E => some (l, E)
  | f + 1, o :: l, E => match opsStep P n ops E o with
    | some E' => advS P n ops f l E'
    | none => none
  | _ + 1, [], _ => none
theorem opsS_ok [Fo c.P] {T' : World → Act → Prop} {o : Oper} {l : List Oper} (h : opsStep c.P c.n ops E o = some E') (hj : S c ops T' l E' L) : S c ops T' (o :: l) E L := by
  unfold opsStep at h
  split at h
  · rename_i d o _ _ _
    cases hd : Nat.blt d c.n with
    | false => rw [hd] at h; cases h
    | true =>
      rw [hd, cond_true] at h
      split at h
      · rename_i v hv; cases h; exact S.p (pureV_pu hv) hd hj
      · cases h
  · rename_i d o _ _ _ j want
    cases hd : Nat.blt d c.n with
    | false => rw [hd] at h; cases h
    | true =>
      rw [hd, cond_true] at h
      split at h
      · rename_i hw
        split at h
        · rename_i v hv; cases h
          exact fun ok a w ha hs => wpStill_step fun _ hK => by
            rw [want_ok hw ha rfl, if_pos rfl]
            exact still_of_run (pureV_pu hv a w ha _ _ _ _) (hK _ (hj ok _ w (ha.put v hd) hs))
        · cases h
      · rename_i hw
        cases h
        exact fun ok a w ha hs => wpStill_step fun _ hK => by
          rw [want_ok hw ha rfl, if_neg (by simp)]
          exact hK _ (hj ok _ w (ha.put undef hd) hs)
      · cases h
  · cases h
theorem advS_ok [Fo c.P] {T' : World → Act → Prop} : ∀ {f : Nat} {l l' : List Oper} {E E' : Env}, advS c.P c.n ops f l E = some (l', E') → S c ops T' l' E' L → S c ops T' l E L
  | 0, l, _, E, _, h, hj => by cases h; exact hj
  | f + 1, o :: l, _, E, _, h, hj => by
    unfold advS at h
    split at h
    · rename_i hs; exact opsS_ok hs (advS_ok h hj)
    · cases h
  | f + 1, [], _, E, _, h, hj => by cases h
theorem S.r [Fo c.P] {T' : World → Act → Prop} {l l' : List Oper} (f : Nat) (h : advS c.P c.n ops f l E = some (l', E')) (hj : S c ops T' l' E' L) : S c ops T' l E L := advS_ok h hj
def advM (P : Program) [Fo P] (n : Nat) (ops : Array Oper) : Nat → List Nat → List (Nat × Bool) → Env → Option (List Nat × List (Nat × Bool) × Env)
  | 0, seen, l, E => some (seen, l, E)
  | f + 1, seen, (i, false) :: l, E => match ops[i]? with
    | some o => (match opsStep P n ops E o with
      | some E' => advM P n ops f (i :: seen) l E'
      | none => none)
    | none => none
  | _ + 1, _, _, _ => none
theorem opsM_ok [Fo c.P] {T' : Env → List Sp → Prop} {i : Nat} {seen : List Nat} {l : List (Nat × Bool)} {o : Oper} (hi : ops[i]? = some o) (h : opsStep c.P c.n ops E o = some E') (hj : Mx c ops T' (i :: seen) l E' K L) : Mx c ops T' seen ((i, false) :: l) E K L := by
  unfold opsStep at h
  split at h
  · rename_i d o _ _ _
    cases hd : Nat.blt d c.n with
    | false => rw [hd] at h; cases h
    | true =>
      rw [hd, cond_true] at h
      split at h
      · rename_i v hv; cases h; exact Mx.p hi (pureV_pu hv) hd hj
      · cases h
  · rename_i d o _ _ _ j want
    cases hd : Nat.blt d c.n with
    | false => rw [hd] at h; cases h
    | true =>
      rw [hd, cond_true] at h
      split at h
      · rename_i hw
        split at h
        · rename_i v hv; cases h
          exact ⟨_, d, v, hi, rfl, hd, fun ok a w ha hs => .inl ⟨want_ok hw ha rfl, .inl (pureV_pu hv a w ha _ _ _ _)⟩, (fun h_ => absurd h_ (by simp [pureO])), hj⟩
        · cases h
      · rename_i hw
        cases h
        exact ⟨_, d, undef, hi, rfl, hd, fun _ _ _ ha _ => .inr ⟨want_ok hw ha rfl, rfl⟩, (fun h_ => absurd h_ (by simp [pureO])), hj⟩
      · cases h
  · cases h
theorem advM_ok [Fo c.P] {T' : Env → List Sp → Prop} : ∀ {f : Nat} {seen seen' : List Nat} {l l' : List (Nat × Bool)} {E E' : Env}, advM c.P c.n ops f seen l E = some (seen', l', E') → Mx c ops T' seen' l' E' K L → Mx c ops T' seen l E K L
  | 0, seen, _, l, _, E, _, h, hj => by cases h; exact hj
  | f + 1, seen, _, (i, false) :: l, _, E, _, h, hj => by
    unfold advM at h
    split at h
    · rename_i o hi
      split at h
      · rename_i hs; exact opsM_ok hi hs (advM_ok h hj)
      · cases h
    · cases h
  | f + 1, seen, _, (i, true) :: l, _, E, _, h, hj => by cases h
  | f + 1, seen, _, [], _, E, _, h, hj => by cases h
theorem Mx.r [Fo c.P] {T' : Env → List Sp → Prop} {seen seen' : List Nat} {l l' : List (Nat × Bool)} (f : Nat) (h : advM c.P c.n ops f seen l E = some (seen', l', E')) (hj : Mx c ops T' seen' l' E' K L) : Mx c ops T' seen l E K L := advM_ok h hj
end
end Go.LK

namespace Go.LK
open Go Go.RowKit
/-- Many alike cells, then others. -/
def rp : Nat → Value → List Value → List Value
  | 0, _, l => l
  | n + 1, v, l => v :: rp n v l
/-- Behind a round of a loop: the loop goes on to what Q says. -/
def Un (P : Program) (x : Code) (Q : Exit → Act → World → Prop) (a : Act) (w : World) : Prop :=
  ∀ (b : Go.Frame) (kk : List Item) (cs : List Go.Frame), ∃ e a' w', Q e a' w' ∧ Arrives P (lone (b.at a (.code x :: .inLoop x :: kk)) cs w) b kk cs e a' w'
theorem un_of {P : Program} {x : Code} {Q : Exit → Act → World → Prop} {a : Act} {w : World} (h : Code.wp P x (Exit.then (Un P x Q) Q) a w) : Un P x Q a w := fun b kk cs => by
  obtain ⟨e, a₁, w₁, hq, harr⟩ := h b (.inLoop x :: kk) cs
  cases e with
  | normal =>
    obtain ⟨e₂, a₂, w₂, hq₂, harr₂⟩ := hq b kk cs
    exact ⟨e₂, a₂, w₂, hq₂, .of_steps (Steps.trans harr (.one step_inLoop)) harr₂⟩
  | exit id => exact ⟨_, a₁, w₁, hq, .pass (x := .inLoop x) rfl (fun _ _ => .inl (by simp)) harr⟩
  | goto l => exact ⟨_, a₁, w₁, hq, .pass (x := .inLoop x) rfl (fun _ _ => .inl (by simp)) harr⟩
  | ret => exact ⟨_, a₁, w₁, hq, .pass (x := .inLoop x) rfl (fun _ _ => .inl (by simp)) harr⟩
  | panic ch => exact ⟨_, a₁, w₁, hq, .pass (x := .inLoop x) rfl (fun _ _ => .inl (by simp)) harr⟩
  | outgrown => exact ⟨_, a₁, w₁, hq, .pass (x := .inLoop x) rfl (fun _ _ => .inl (by simp)) harr⟩
section
variable {c : Cx} {k : List It} {E : Env} {L : List Sp} {x : Code}
theorem J.un (h : J c (.code x :: .lp (Un c.P x (c.Q k)) :: k) E L) : J c (.code (.loop x) :: k) E L := fun ok a w ha hs b kk cs => by
  obtain ⟨e, a', w', hq, harr⟩ := un_of (h ok a w ha hs) b kk cs
  exact ⟨e, a', w', hq, .of_steps (.one step_loop) harr⟩
theorem J.again (h : J c (.code x :: .lp (Un c.P x (c.Q k)) :: k) E L) : J c (.lp (Un c.P x (c.Q k)) :: k) E L := fun ok a w ha hs => un_of (h ok a w ha hs)
theorem id_one {l : List (List Value)} (h : (l.all fun x => x.all Value.oneCell') = true) : ∀ a ∈ l, (id a).all Value.oneCell' = true := fun a ha => List.all_eq_true.1 h a ha
theorem Mx.nr {T' : Env → List Sp → Prop} {K : List Sp} {ops : Array Oper} {i : Nat} {seen : List Nat} {rest : List (Nat × Bool)} (t s : Nat) (els : List (List Value)) (he : els = []) {o' : Oper} (hi : ops[i]? = some o') (hg : o'.guard = none) (h : Mx c ops T' seen ((i, true) :: rest) E K (row (.slice none 0 0) t s els :: L)) : Mx c ops T' seen ((i, true) :: rest) E K L := Mx.nilRow t s hi hg (he ▸ h)
end
end Go.LK

namespace Go.LK
open Go Go.RowKit
/-- A map in which the place of a key is marked by a stamp. -/
def me {α : Type} (b : Nat) (f : α → Value) (m : List (Int × α)) (key st : Int) : Sp where
  foot := [b]
  holds w := ∃ (arr : Array MapEntry) (clock i : Nat), w.heap[b]? = some (.map arr clock) ∧ arr.findIdx? (fun e => (e.born : Int) == st) = some i ∧ ∀ u, MapI f (putI m key u) (arr.modify i fun e => { e with val := f u }) clock
  lt w h k hk := by
    obtain ⟨arr, clock, i, h1, _⟩ := h
    simp at hk; subst hk
    exact (Array.getElem?_eq_some_iff.1 h1).1
  loc w w' hw h := by
    obtain ⟨arr, clock, i, h1, h2⟩ := h
    exact ⟨arr, clock, i, by rw [hw b (by simp)]; exact h1, h2⟩
section
variable {α : Type} {f : α → Value} {m : List (Int × α)} {c : Cx} {E : Env} {L : List Sp} {ty T k e : TypeId} {x y z : Operand} {b : Nat}
theorem run_entI {P : Program} {w : World} {key : Int} {zv : Value} (hT : P.underlying T = some (.map k e)) (hk : P.underlying k = some (.int .i64)) (hz : ∀ w, (zeroValue e).run P w = .ok zv w) (hm : (mi b f m).holds w) :
    ∃ (w' : World) (u0 : Value) (st : Int), (Instr.mapEntry T (.map (some b)) (.int .i64 key)).run P w = .ok (.tuple #[u0, .int .i64 st]) w' ∧ Frame w [b] w' ∧ (me b f m key st).holds w' := by
  obtain ⟨arr, clock, h1, hM⟩ := hm
  have hf := hM.find hk w key
  have hg : (getObj b).run P w = .ok (.map arr clock) w := by simp [getObj, Sem.run, h1]
  have hc : ∀ em, (Instr.checkKey em 10000 k (.int .i64 key)).run P w = .ok () w := fun em => (KT.int hk).check w em [key] rfl
  cases hat : atI m key 0 with
  | none =>
    have hp : ∀ u, MapI f (putI m key u) (arr.push { key := .int .i64 key, val := f u, born := clock }) (clock + 1) := fun u => by
      have hp := hM.put key u
      rw [hat] at hp; exact hp
    have hidx : (arr.push { key := .int .i64 key, val := zv, born := clock }).findIdx? (fun e => (e.born : Int) == (clock : Int)) = some arr.size := by
      rw [Go.WideElems.findIdx_arr]
      exact Go.WideElems.findIdx_born (l := (arr.push { key := .int .i64 key, val := zv, born := clock }).toList) (j := arr.size) (e0 := { key := .int .i64 key, val := zv, born := clock }) (by
        simp only [Array.toList_push, List.map_append, List.map_cons, List.map_nil]
        refine List.nodup_append.2 ⟨hM.born, by simp, fun a ha c' hc' e1 => ?_⟩
        simp only [List.mem_singleton] at hc'
        obtain ⟨x, hx, rfl⟩ := List.mem_map.1 ha
        have := hM.old x hx
        omega) (by simp)
    refine ⟨_, zv, (clock : Int), ?_, frame_set w b (.map (arr.push { key := .int .i64 key, val := zv, born := clock }) (clock + 1)), ⟨_, _, _, heap_set h1, hidx, fun u => ?_⟩⟩
    · simp only [Instr.mapEntry, Sem.run_bind, run_underlying hT, Result.andThen_ok, hg, hc, hf, hat, Option.map_none, run_setObjB h1, hz]
      rfl
    · have hmod : (arr.push { key := .int .i64 key, val := zv, born := clock : MapEntry }).modify arr.size (fun e => { e with val := f u }) = arr.push { key := .int .i64 key, val := f u, born := clock } := by
        apply Array.ext'
        rw [Array.toList_modify, Array.toList_push, Array.toList_push, ← Array.length_toList, Go.WideElems.modify_last]
      rw [hmod]; exact hp u
  | some p =>
    obtain ⟨j, v⟩ := p
    have hp : ∀ u, j < arr.size ∧ ((arr[j]?).map (·.key)) = some (.int .i64 key) ∧ MapI f (putI m key u) (arr.modify j fun e => { e with key := .int .i64 key, val := f u }) clock := fun u => by
      have hp := hM.put key u
      rw [hat] at hp; exact hp
    obtain ⟨hja, hkey, _⟩ := hp v
    obtain ⟨e0, he0⟩ : ∃ e0, arr[j]? = some e0 := ⟨_, Array.getElem?_eq_getElem hja⟩
    have he0k : e0.key = .int .i64 key := by rw [he0] at hkey; simpa using hkey
    have hst : (Instr.keyThatStays ((some e0.key).getD (.int .i64 key)) (.int .i64 key)).run P w = .ok (.int .i64 key) w := by
      rw [he0k]
      simp [Instr.keyThatStays, Instr.sameBits]
    have hl0 : arr.toList[j]? = some e0 := by simpa using he0
    have hsame : (arr.modify j fun e => { e with key := .int .i64 key }) = arr := by
      apply Array.ext'
      rw [Array.toList_modify, Go.ChangeMaps.modify_eq_set _ _ _ _ hl0]
      have : ({ e0 with key := .int .i64 key } : MapEntry) = e0 := by rw [← he0k]
      rw [this]
      exact Go.WideElems.set_self _ _ _ hl0
    have hidx : arr.findIdx? (fun e => (e.born : Int) == ((e0.born : Nat) : Int)) = some j := by
      rw [Go.WideElems.findIdx_arr]
      exact Go.WideElems.findIdx_born hM.born hl0
    refine ⟨_, f v, (e0.born : Int), ?_, frame_set w b (.map arr clock), ⟨_, _, _, heap_set h1, hidx, fun u => ?_⟩⟩
    · simp only [Instr.mapEntry, Sem.run_bind, run_underlying hT, Result.andThen_ok, hg, hc, hf, hat, Option.map_some, hst, run_setObjB h1, hsame, he0]
      rfl
    · have hmod : arr.modify j (fun e => { e with val := f u }) = arr.modify j (fun e => { e with key := .int .i64 key, val := f u }) := by
        apply Array.ext'
        rw [Array.toList_modify, Array.toList_modify, Go.ChangeMaps.modify_eq_set _ _ _ _ hl0, Go.ChangeMaps.modify_eq_set _ _ _ _ hl0, ← he0k]
      rw [hmod]; exact (hp u).2.2
theorem Lo.mapEnt {key : Int} {zv : Value} (i : Nat) (hT : c.P.underlying T = some (.map k e)) (hk : c.P.underlying k = some (.int .i64)) (hz : ∀ w, (zeroValue e).run c.P w = .ok zv w) (hx : ev E x = some (.map (some b))) (hy : ev E y = some (.int .i64 key)) (hi : L[i]? = some (mi b f m)) :
    Lo c E L (.mapEntry T x y) ty fun v L' => ∃ u0 st, v = .tuple #[u0, .int .i64 st] ∧ L' = L.set i (me b f m key st) := fun _ a w ha hst d pos af g K Q hK => by
  obtain ⟨w', u0, st, h1, h2, h3⟩ := run_entI (key := key) hT hk hz (hst.at_ _ (List.mem_of_getElem? hi))
  exact wp_loud (v := .tuple #[u0, .int .i64 st]) (w' := w') (by simp [execOp, ha.ev hx, ha.ev hy, h1]) (hK _ _ _ ⟨u0, st, rfl, rfl⟩ (hst.set hi (by simpa [mi] using h2) h3 (by simp [me, mi])))
theorem Lo.entSt {key st : Int} {u : α} (i : Nat) (hx : ev E x = some (.map (some b))) (hy : ev E y = some (.int .i64 st)) (hz : ev E z = some (f u)) (hi : L[i]? = some (me b f m key st)) :
    Lo c E L (.entryStore T x y z) ty fun _ L' => L' = L.set i (mi b f (putI m key u)) := fun _ a w ha hst d pos af g K Q hK => by
  obtain ⟨arr, clock, j, h1, hj, hM⟩ := hst.at_ _ (List.mem_of_getElem? hi)
  have hg : (getObj b).run c.P w = .ok (.map arr clock) w := by simp [getObj, Sem.run, h1]
  have h2 : (Instr.entryStore T (.map (some b)) (.int .i64 st) (f u)).run c.P w = .ok () { w with heap := w.heap.setIfInBounds b (.map (arr.modify j fun e => { e with val := f u }) clock) } := by
    simp [Instr.entryStore, hg, asInt, asIntOf, hj, run_setObjB h1, Result.andThen]
  exact wp_loud0 (w' := { w with heap := w.heap.setIfInBounds b (.map (arr.modify j fun e => { e with val := f u }) clock) }) (by simp [execOp, ha.ev hx, ha.ev hy, ha.ev hz, h2]) (hK _ _ _ rfl (hst.set hi (by simpa [me] using frame_set w b _) ⟨_, clock, heap_set h1, hM u⟩ (by simp [me, mi])))
end
end Go.LK
