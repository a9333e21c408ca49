/-
  Rules and plain laws that the walks use.
-/
import Derived.Test.YtohjlkjhpibkmaaGreatDoorD04
import Derived.Test.YtohjlkjhpibkmaaGreatDoorD03
import Derived.Laws.IdiomStrings
import Derived.Test.YtohjlkjhpibkmaaGreatDoorD01
import Derived.HandedShaped
set_option linter.unusedSimpArgs false
set_option linter.unusedVariables false
namespace Go.LK
open Go Go.RowKit
structure Im where
  id:Int
  level:Int
  from_:Int
  deadline:Int
  budget:Int
  since:Int
  seq:Int
def Im.cells (x:Im):List Value:=[.int .i64 x.id,.int .i64 x.level,.int .i64 x.from_,.int .i64 x.deadline,.int .i64 x.budget,.int .i64 x.since,.int .i64 x.seq]
theorem Im.one {l:List Im}:∀ a∈l,(Im.cells a).all Value.oneCell'=true:=fun _ _=>rfl
def Im.zero:Im:=⟨0,0,0,0,0,0,0⟩
end Go.LK
namespace Go.LK.Nd
open Go Go.LK
def addC (a b:Int):Int:=Sh.keep (Sh.keep a 2147483647+Sh.keep b 2147483647) 2147483647
def later (a b:Int):Int:=Sh.tick (Sh.tick a+Sh.tick b)
def cmp (x y:Int):Int:=if x < y then -1 else if y < x then 1 else 0
def first:List Int→Int
  | []=>0
  | n :: l=>if n=0 then first l else n
theorem first_step {l:List Int} {k:Nat} {n:Int} (h:first l=first (l.drop k)) (hn:l[k]?=some n) (h0:n=0):first l=first (l.drop (k+1)):=by
  obtain ⟨hk,rfl⟩:=List.getElem?_eq_some_iff.1 hn
  rw [h,List.drop_eq_getElem_cons hk,first,if_pos h0]
theorem first_hit {l:List Int} {k:Nat} {n:Int} (h:first l=first (l.drop k)) (hn:l[k]?=some n) (h0:¬n=0):first l=n:=by
  obtain ⟨hk,rfl⟩:=List.getElem?_eq_some_iff.1 hn
  rw [h,List.drop_eq_getElem_cons hk,first,if_neg h0]
theorem first_end {l:List Int} {k:Nat} (h:first l=first (l.drop k)) (hk:¬k < l.length):first l=0:=by
  rw [h,List.drop_eq_nil_of_le (by omega)];rfl
def going (a b:Im):Int:=first [cmp a.deadline b.deadline,cmp a.seq b.seq,cmp a.id b.id]
def before (a b:Im):Bool:=decide (going a b < 0)
def worse (a b:Im):Bool:=decide (0 < first [cmp a.level b.level,going a b])
theorem worse_level {a b:Im} (h:worse a b=false):a.level≤b.level:=by
  unfold worse cmp first at h
  by_cases h1:a.level < b.level
  · omega
  · by_cases h2:b.level < a.level
    · simp [h1,h2] at h
    · omega
def ends (x:Im) (now:Int):Int:=if x.deadline≤now then 3 else if x.budget < Sh.left now x.since then 4 else 0
end Go.LK.Nd
namespace Go.LK.Nd
open Go Go.LK
def AtOk (t:List Im) (m:List (Int×Int)):Prop:=∀ id j,getI m id=some j↔∃ (k:Nat) (x:Im),t[k]?=some x∧x.id=id∧j=(k:Int)
section
variable {t:List Im} {m:List (Int×Int)} {i k:Nat} {a b x:Im} {id j:Int}
theorem AtOk.nil:AtOk [] []:=fun id j=>⟨fun h=>by simp [getI] at h,fun ⟨k,x,h,_⟩=>by simp at h⟩
theorem AtOk.here (h:AtOk t m) (ha:t[i]?=some a):getI m a.id=some (i:Int):=(h a.id i).2 ⟨i,a,ha,rfl,rfl⟩
theorem AtOk.inj (h:AtOk t m) (ha:t[i]?=some a) (hb:t[k]?=some b) (he:a.id=b.id):i=k:=by
  have h1:=h.here ha;have h2:=h.here hb
  rw [he,h2] at h1
  have:=Option.some.inj h1;omega
theorem AtOk.out (h:AtOk t m) (hg:getI m id=some j):∃ (k:Nat) (x:Im),t[k]?=some x∧x.id=id∧j=(k:Int):=(h id j).1 hg
theorem AtOk.no (h:AtOk t m) (hg:getI m id=none):∀ x∈t,x.id≠id:=fun x hx he=>by
  obtain ⟨k,hk⟩:=List.getElem?_of_mem hx
  have:=h.here hk
  rw [he,hg] at this;cases this
theorem AtOk.swap (h:AtOk t m) (ha:t[i]?=some a) (hb:t[k]?=some b):AtOk ((t.set i b).set k a) (putI (putI m b.id i) a.id k):=by
  have hil:i < t.length:=(List.getElem?_eq_some_iff.1 ha).1
  have hkl:k < t.length:=(List.getElem?_eq_some_iff.1 hb).1
  intro id j
  rw [getI_putI,getI_putI]
  by_cases e1:a.id=id
  · rw [if_pos e1]
    constructor
    · intro hj;cases hj;exact ⟨k,a,by simp [hkl],e1,rfl⟩
    · rintro ⟨k',x,hx,hid,rfl⟩
      rw [List.getElem?_set,List.getElem?_set] at hx
      by_cases h1:k=k'
      · subst h1;rfl
      · rw [if_neg h1] at hx
        by_cases h2:i=k'
        · subst h2
          rw [if_pos rfl,if_pos hil] at hx;cases hx
          have:=h.inj ha hb (by rw [e1,hid]);omega
        · rw [if_neg h2] at hx
          have:=h.inj ha hx (by rw [e1,hid]);omega
  · rw [if_neg e1]
    by_cases e2:b.id=id
    · rw [if_pos e2]
      have hne:i≠k:=fun e=>by subst e;rw [ha] at hb;cases hb;exact e1 e2
      constructor
      · intro hj;cases hj;exact ⟨i,b,by rw [List.getElem?_set,if_neg (Ne.symm hne),List.getElem?_set,if_pos rfl,if_pos hil],e2,rfl⟩
      · rintro ⟨k',x,hx,hid,rfl⟩
        rw [List.getElem?_set,List.getElem?_set] at hx
        by_cases h1:k=k'
        · subst h1
          rw [if_pos rfl,if_pos (by simpa using hkl)] at hx;cases hx
          exact absurd hid e1
        · rw [if_neg h1] at hx
          by_cases h2:i=k'
          · subst h2;rfl
          · rw [if_neg h2] at hx
            have:=h.inj hb hx (by rw [e2,hid]);omega
    · rw [if_neg e2,h id j]
      constructor
      · rintro ⟨k',x,hx,hid,rfl⟩
        refine ⟨k',x,?_,hid,rfl⟩
        rw [List.getElem?_set,List.getElem?_set]
        have h1:k≠k':=fun e=>by subst e;rw [hb] at hx;cases hx;exact e2 hid
        have h2:i≠k':=fun e=>by subst e;rw [ha] at hx;cases hx;exact e1 hid
        rw [if_neg h1,if_neg h2];exact hx
      · rintro ⟨k',x,hx,hid,rfl⟩
        rw [List.getElem?_set,List.getElem?_set] at hx
        by_cases h1:k=k'
        · subst h1
          rw [if_pos rfl,if_pos (by simpa using hkl)] at hx;cases hx
          exact absurd hid e1
        · rw [if_neg h1] at hx
          by_cases h2:i=k'
          · subst h2
            rw [if_pos rfl,if_pos hil] at hx;cases hx
            exact absurd hid e2
          · rw [if_neg h2] at hx
            exact ⟨k',x,hx,hid,rfl⟩
theorem swap_perm (ha:t[i]?=some a) (hb:t[k]?=some b):((t.set i b).set k a).Perm t:=by
  obtain ⟨hi,rfl⟩:=List.getElem?_eq_some_iff.1 ha
  obtain ⟨hk,rfl⟩:=List.getElem?_eq_some_iff.1 hb
  exact List.set_set_perm hi hk
theorem swap_at (ha:t[i]?=some a) (hb:t[k]?=some b):∀ x,t[i]?=some x→((t.set i b).set k a)[k]?=some x:=fun x hx=>by
  rw [ha] at hx;cases hx
  have hkl:k < t.length:=(List.getElem?_eq_some_iff.1 hb).1
  simp [hkl]
theorem AtOk.found (h:AtOk t m) (hs:(getI m id).isSome=true):∃ (k:Nat) (x:Im),t[k]?=some x∧x.id=id∧(getI m id).getD 0=(k:Int)∧k < t.length:=by
  obtain ⟨j,hj⟩:=Option.isSome_iff_exists.1 hs
  obtain ⟨k,x,hx,hid,rfl⟩:=h.out hj
  exact ⟨k,x,hx,hid,by rw [hj];rfl,(List.getElem?_eq_some_iff.1 hx).1⟩
theorem AtOk.noneIff (h:AtOk t m):(getI m id).isSome=false↔∀ x∈t,x.id≠id:=by
  constructor
  · intro hn
    exact h.no (by cases hg:getI m id with|none=>rfl|some _=>rw [hg] at hn;cases hn)
  · intro hn
    cases hg:getI m id with
    | none=>rfl
    | some j =>
      obtain ⟨k,x,hx,hid,_⟩:=h.out hg
      exact absurd hid (hn x (List.mem_of_getElem? hx))
theorem AtOk.push (h:AtOk t m) (hn:getI m x.id=none):AtOk (t++[x]) (putI m x.id t.length):=by
  intro id j
  rw [getI_putI]
  by_cases e1:x.id=id
  · rw [if_pos e1]
    constructor
    · intro hj;cases hj;exact ⟨t.length,x,by simp,e1,rfl⟩
    · rintro ⟨k',y,hy,hid,rfl⟩
      rcases Nat.lt_trichotomy k' t.length with h1|h1|h1
      · rw [List.getElem?_append_left h1] at hy
        exact absurd (hid.trans e1.symm) (h.no hn y (List.mem_of_getElem? hy))
      · rw [h1]
      · rw [List.getElem?_eq_none (by simp;omega)] at hy;cases hy
  · rw [if_neg e1,h id j]
    constructor
    · rintro ⟨k',y,hy,hid,rfl⟩
      exact ⟨k',y,by rw [List.getElem?_append_left (List.getElem?_eq_some_iff.1 hy).1];exact hy,hid,rfl⟩
    · rintro ⟨k',y,hy,hid,rfl⟩
      rcases Nat.lt_trichotomy k' t.length with h1|h1|h1
      · rw [List.getElem?_append_left h1] at hy;exact ⟨k',y,hy,hid,rfl⟩
      · subst h1;simp at hy;subst hy;exact absurd hid e1
      · rw [List.getElem?_eq_none (by simp;omega)] at hy;cases hy
theorem set_last:(t++[x]).set t.length x=t++[x]:=by
  rw [List.set_append_right _ _ (Nat.le_refl _)];simp
theorem isSome_no (hn:(getI m id).isSome=false):getI m id=none:=by
  cases hg:getI m id with
  | none=>rfl
  | some _=>rw [hg] at hn;cases hn
theorem AtOk.pushSet (h:AtOk t m) (hn:(getI m x.id).isSome=false) {i:Int} (hi:i=(((t++[x]).length:Nat):Int)-1):AtOk ((t++[x]).set i.toNat x) (putI m x.id i)∧((t++[x]).set i.toNat x).Perm (x :: t)∧((t++[x]).set i.toNat x).length=t.length+1:=by
  have h1:i=(t.length:Int):=by rw [hi];simp
  subst h1
  rw [show ((t.length:Nat):Int).toNat=t.length from by omega,set_last]
  exact ⟨h.push (isSome_no hn),List.perm_append_singleton _ _,by simp⟩
theorem AtOk.pop (h:AtOk t m) (hx:t[t.length-1]?=some x):AtOk (t.take (t.length-1)) (delI m x.id):=by
  have hl:t.length-1 < t.length:=(List.getElem?_eq_some_iff.1 hx).1
  intro id j
  rw [getI_delI]
  by_cases e1:x.id=id
  · rw [if_pos e1]
    constructor
    · intro h;cases h
    · rintro ⟨k',y,hy,hid,rfl⟩
      rw [List.getElem?_take] at hy
      by_cases h1:k' < t.length-1
      · rw [if_pos h1] at hy
        have:=h.inj hx hy (by rw [e1,hid]);omega
      · rw [if_neg h1] at hy;cases hy
  · rw [if_neg e1,h id j]
    constructor
    · rintro ⟨k',y,hy,hid,rfl⟩
      have h1:k' < t.length:=(List.getElem?_eq_some_iff.1 hy).1
      have h2:k'≠t.length-1:=fun e=>by subst e;rw [hx] at hy;cases hy;exact e1 hid
      exact ⟨k',y,by rw [List.getElem?_take,if_pos (by omega)];exact hy,hid,rfl⟩
    · rintro ⟨k',y,hy,hid,rfl⟩
      rw [List.getElem?_take] at hy
      by_cases h1:k' < t.length-1
      · rw [if_pos h1] at hy;exact ⟨k',y,hy,hid,rfl⟩
      · rw [if_neg h1] at hy;cases hy
theorem pop_perm (hx:t[t.length-1]?=some x):t.Perm (x :: t.take (t.length-1)):=by
  have hl:t.length-1 < t.length:=(List.getElem?_eq_some_iff.1 hx).1
  have h1:t=t.take (t.length-1)++[x]:=by
    have h2:=List.take_add_one (i:=t.length-1) (l:=t)
    rw [hx,show t.length-1+1=t.length from by omega,List.take_length] at h2
    exact h2
  exact (h1 ▸ List.Perm.refl _:t.Perm (t.take (t.length-1)++[x])).trans (List.perm_append_singleton _ _)
theorem AtOk.uniq (h:AtOk t m) {y:Im} (hx:x∈t) (hy:y∈t) (he:x.id=y.id):x=y:=by
  obtain ⟨i,hi⟩:=List.getElem?_of_mem hx
  obtain ⟨k,hk⟩:=List.getElem?_of_mem hy
  have:=h.inj hi hk he
  subst this;rw [hi] at hk;cases hk;rfl
theorem AtOk.has (h:AtOk t m) (hx:x∈t):(getI m x.id).isSome=true:=by
  obtain ⟨i,hi⟩:=List.getElem?_of_mem hx
  rw [h.here hi];rfl
def Top (l:List Im) (i k:Nat):Prop:=∀ (j:Nat) (y x:Im),j < i→l[j]?=some y→l[k]?=some x→y.level≤x.level
theorem worse_yes {a b:Im} (h:worse a b=true):b.level≤a.level:=by
  unfold worse cmp first at h
  by_cases h1:a.level < b.level
  · simp [h1] at h
  · omega
theorem Top.zero {l:List Im}:Top l 0 0:=fun j y x h=>by omega
theorem Top.take {l:List Im} {z:Im} (h:Top l i k) (hk:l[k]?=some x) (hi:l[i]?=some z) (hw:worse z x=true):Top l (i+1) i:=fun j y x' hj hy hx'=>by
  rw [hi] at hx';cases hx'
  rcases Nat.lt_or_ge j i with h1|h1
  · have h2:=h j y x h1 hy hk;have h3:=worse_yes hw;omega
  · have:j=i:=by omega
    subst this;rw [hi] at hy;cases hy;omega
theorem Top.keep {l:List Im} {z:Im} (h:Top l i k) (hk:l[k]?=some x) (hi:l[i]?=some z) (hw:worse z x=false):Top l (i+1) k:=fun j y x' hj hy hx'=>by
  rw [hk] at hx';cases hx'
  rcases Nat.lt_or_ge j i with h1|h1
  · exact h j y x h1 hy hk
  · have:j=i:=by omega
    subst this;rw [hi] at hy;cases hy;exact worse_level hw
theorem Top.all {l:List Im} (h:Top l l.length k) (hk:l[k]?=some x):∀ z∈l,z.level≤x.level:=fun z hz=>by
  obtain ⟨j,hj⟩:=List.getElem?_of_mem hz
  exact h j z x (List.getElem?_eq_some_iff.1 hj).1 hj hk
theorem add_gone {o t1 t2:List Im} {e z:Im} (hm:AtOk t m) (ho:o.Perm t) (he:(o++[x])[k]?=some e) (hk:k < o.length) (hz:z.id=e.id) (h1:t.Perm (z :: t1)) (h2:t2.Perm (x :: t1)) (ht:Top (o++[x]) (o++[x]).length k) :
    (e :: t2).Perm (x :: t)∧∀ y∈t2,y.level≤e.level:=by
  have heo:e∈o:=by
    rw [List.getElem?_append_left hk] at he
    exact List.mem_of_getElem? he
  have hze:z=e:=hm.uniq (h1.mem_iff.2 (by simp)) (ho.mem_iff.1 heo) hz
  subst hze
  have h3:(z :: t2).Perm (x :: t):=(h2.cons z).trans ((List.Perm.swap x z t1).trans (h1.symm.cons x))
  refine ⟨h3,fun y hy=>ht.all he y ?_⟩
  have h4:y∈x :: t:=h3.mem_iff.1 (by simp [hy])
  rcases List.mem_cons.1 h4 with rfl|h5
  · simp
  · simp [ho.mem_iff.2 h5]
theorem add_last {o:List Im} {e:Im} (ho:o.Perm t) (he:(o++[x])[k]?=some e) (hk:k=o.length) (ht:Top (o++[x]) (o++[x]).length k):∀ y∈t,y.level≤x.level:=by
  subst hk
  have:x=e:=by simpa using he
  subst this
  exact fun y hy=>ht.all he y (by simp [ho.mem_iff.2 hy])
theorem no_of {t1:List Im} {z:Im} {m1:List (Int×Int)} (hm:AtOk t m) (hm1:AtOk t1 m1) (hn:(getI m x.id).isSome=false) (h1:t.Perm (z :: t1)):(getI m1 x.id).isSome=false :=
  hm1.noneIff.2 fun y hy=>hm.noneIff.1 hn y (h1.mem_iff.2 (by simp [hy]))
def Kept (o:List Im) (now:Int) (k:Nat):List Im:=(o.take k).filter fun x=>decide (ends x now=0)
def Gone (o:List Im) (now:Int) (k:Nat):List Im:=(o.take k).filter fun x=>!decide (ends x now=0)
theorem kept_next {o:List Im} {now:Int} (hx:o[k]?=some x) (h:ends x now=0):Kept o now (k+1)=Kept o now k++[x]∧Gone o now (k+1)=Gone o now k:=by
  unfold Kept Gone;rw [List.take_add_one,hx,List.filter_append,List.filter_append];simp [h]
theorem gone_next {o:List Im} {now:Int} (hx:o[k]?=some x) (h:¬ends x now=0):Kept o now (k+1)=Kept o now k∧Gone o now (k+1)=Gone o now k++[x]:=by
  unfold Kept Gone;rw [List.take_add_one,hx,List.filter_append,List.filter_append];simp [h]
theorem drop_at {o:List Im} (hx:o[k]?=some x):o.drop k=x :: o.drop (k+1):=by
  obtain ⟨hk,rfl⟩:=List.getElem?_eq_some_iff.1 hx
  rw [List.drop_eq_getElem_cons hk]
theorem sweep_go {o t1 t2:List Im} {e:Im} {now:Int} (hp:t1.Perm (Kept o now k++o.drop k)) (he:o[k]?=some e) (hn:¬ends e now=0) (h1:t1.Perm (e :: t2)):t2.Perm (Kept o now (k+1)++o.drop (k+1)):=by
  rw [(gone_next he hn).1]
  rw [drop_at he] at hp
  exact ((h1.symm.trans hp).trans List.perm_middle).cons_inv
theorem sweep_stay {o t1:List Im} {e:Im} {now:Int} (hp:t1.Perm (Kept o now k++o.drop k)) (he:o[k]?=some e) (hn:ends e now=0):t1.Perm (Kept o now (k+1)++o.drop (k+1)):=by
  rw [(kept_next he hn).1,List.append_assoc]
  rw [drop_at he] at hp
  exact hp
theorem sweep_mem {o t1:List Im} {e:Im} {now:Int} (hp:t1.Perm (Kept o now k++o.drop k)) (he:o[k]?=some e):e∈t1:=hp.mem_iff.2 (by rw [drop_at he];simp)
theorem kept_len {o:List Im} {now:Int}:(Kept o now k).length≤k:=Nat.le_trans (List.length_filter_le _ _) (by rw [List.length_take];omega)
theorem gone_len {o:List Im} {now:Int}:(Gone o now k).length≤k:=Nat.le_trans (List.length_filter_le _ _) (by rw [List.length_take];omega)
theorem sweep_len {o t1:List Im} {now:Int} (hp:t1.Perm (Kept o now k++o.drop k)) (hk:k≤o.length):t1.length≤o.length:=by
  have h1:=hp.length_eq;have h2:=kept_len (o:=o) (now:=now) (k:=k)
  rw [List.length_append,List.length_drop] at h1
  omega
theorem sweep_zero {o t1:List Im} {now:Int} (hp:o.Perm t1):t1.Perm (Kept o now 0++o.drop 0):=by simpa [Kept] using hp.symm
theorem sweep_all {o t1:List Im} {now:Int} (hp:t1.Perm (Kept o now k++o.drop k)) (hk:¬k < o.length) (h2:k≤o.length):t1.Perm (Kept o now o.length):=by
  have:k=o.length:=by omega
  subst this;simpa using hp
end
end Go.LK.Nd
namespace Go.LK
open Go Go.RowKit
section
variable {c:Cx} {E:Env} {T ty:TypeId} {x y:Operand}
theorem Pu.shr1 {k yk:IntKind} {m:Int} (hk:Nat.ble 1 k.bits=true) (hx:ev E x=some (.int k m)) (hy:ev E y=some (.int yk 1)) {ty':TypeId}:Pu c E (.binOp .shr T x y ty') ty (.int k (m.fdiv 2)):=fun a w ha _ _ _ _=>by
  simp only [execOp,ha.ev hx,ha.ev hy]
  simp [eqGuard,binOp,Op.shift]
  rw [Nat.min_eq_left (Nat.le_of_ble_eq_true hk)];rfl
theorem half {n:Int} (h0:0≤n) (h1:n≤4611686018427387904):IntKind.i64.wrap ((IntKind.u64.wrap n).fdiv 2)=n / 2:=by
  have h2:IntKind.u64.wrap n=n:=by
    simp only [IntKind.wrap,IntKind.bits,IntKind.signed]
    simp;omega
  rw [h2,Int.fdiv_eq_ediv_of_nonneg _ (by omega)]
  simp only [IntKind.wrap,IntKind.bits,IntKind.signed]
  simp;omega
theorem at_hd {α:Type} {f:α→Value} {hd:List Value} {l:List α} {i n:Nat} {x:α} (hn:hd.length=n) (h:l[i]?=some x):(hd++l.map f)[n+i]?=some (f x):=by
  subst hn
  rw [List.getElem?_append_right (by omega),show hd.length+i-hd.length=i from by omega]
  exact at_map h
theorem set_hd {α:Type} {f:α→Value} {hd:List Value} {l:List α} {i n:Nat} {x:α} (hn:hd.length=n) (h:i < l.length):(hd++l.map f).take (n+i*1)++[f x]++(hd++l.map f).drop (n+i*1+[f x].length)=hd++(l.set i x).map f:=by
  subst hn
  rw [Nat.mul_one,List.take_append,List.take_of_length_le (by omega),show hd.length+i-hd.length=i from by omega,show hd.length+i+[f x].length=hd.length+(i+[f x].length) from by omega,List.drop_append,List.drop_of_length_le (by omega:hd.length≤hd.length+(i+[f x].length)),show hd.length+(i+[f x].length)-hd.length=i+[f x].length from by omega,List.nil_append,List.append_assoc,List.append_assoc]
  rw [←List.append_assoc (List.take i _),set_cells h]
theorem hd_fits {α:Type} {f:α→Value} {hd:List Value} {l:List α} {i n:Nat} (hn:hd.length=n) (h:i < l.length):Nat.ble (n+i*1+1) (hd++l.map f).length=true:=by
  rw [Nat.ble_eq,List.length_append,List.length_map]
  omega
theorem set_all {α:Type} {f:α→Value} {hd:List Value} {l:List α} {n k:Nat} {z:α} (hn:hd.length=n) (hl:l.length=k):(hd++l.map f).take n++List.replicate k (f z)++(hd++l.map f).drop (n+(List.replicate k (f z)).length)=hd++(List.replicate k z).map f:=by
  subst hn hl
  rw [List.take_left,List.drop_of_length_le (by simp),List.append_nil,List.map_replicate]
section
variable {L:List Sp} {t g:Nat} {cs:List Value} {As:List Sp}
theorem Cel.bun (i:Nat) (hi:L[i]?=some (LK.bun As)) (hA:LK.var g cs t∈As):Cel c L g 0 cs:=fun _ w hs j u hj=>by
  have hh:w.heap[g]?=some (.cells cs.toArray t (0,0)):=(hs.at_ _ (List.mem_of_getElem? hi)).1 _ hA
  rw [Nat.zero_add,cell_of_row w g j _ t _ hh];simpa using hj
theorem Cel.roBun (i:Nat) (hi:c.Ro[i]?=some (LK.bun As)) (hA:LK.var g cs t∈As):Cel c L g 0 cs:=fun ok w hs j u hj=>by
  have hh:w.heap[g]?=some (.cells cs.toArray t (0,0)):=(c.ro ok hs hi).1 _ hA
  rw [Nat.zero_add,cell_of_row w g j _ t _ hh];simpa using hj
theorem Lo.callQ {f:FuncId} {xs:List Operand} {ts:Array TypeId} {vs:List Value} {RoC:List Sp} {post:Value→List Sp→Prop} (hcall:∀ args w,(callFunc f args).run c.P w=.ok (.enter f args) w) (ht:Tri c.P f vs.toArray RoC [] post) (hp:∀ v L',post v L'→L'=[])
    (hxs:evs E xs=some vs) (hro:RoK c L [] RoC):Lo c E L (.call { callee:=.value (.func f),args:=xs.toArray,argTypes:=ts }) ty fun v L'=>(∃ Lp,post v Lp)∧L'=L:=fun ok a w ha hst d pos af g K Q hK =>
  Lo.call vs hcall (evs_ok hxs) ht [] (List.range L.length) (by simpa using List.nodup_range) rfl L (sel_range L) (hro [] rfl) ok a w ha hst d pos af g K Q fun v L' w' ⟨Lp,hp1,hL⟩ hs=>hK v L w' ⟨⟨Lp,hp1⟩,rfl⟩ (by rw [hL,hp v Lp hp1] at hs;simpa using hs)
end
end
end Go.LK
namespace Go.LK.Nd
open Go Go.LK
abbrev Pl:=List (Option (Nat×Im))
def sP:Option (Nat×Im)→Value
  | none=>.pointer none
  | some (g,_)=>.pointer (some ⟨g,0,none⟩)
theorem Pu.sPEq {c:Cx} {E:Env} {T ty e:TypeId} {x:Operand} {o:Option (Nat×Im)} (hT:c.P.underlying T=some (.pointer e)) (hx:ev E x=some (sP o)):Pu c E (.binOp .eql T x (.const (.pointer none)) T) ty (.bool o.isNone):=by
  cases o with
  | none=>exact Pu.nilEq hT hx
  | some q=>obtain ⟨g,y⟩:=q;exact Pu.someEq hT hx
def sI (T:Nat) (ps:Pl):List Sp:=ps.filterMap fun o=>o.map fun q=>var q.1 q.2.cells T
def its (ps:Pl):List Im:=ps.filterMap fun o=>o.map (·.2)
section
variable {ps:Pl} {k g T:Nat} {y x:Im} {id:Int}
theorem sI_mem (h:ps[k]?=some (some (g,y))):var g y.cells T∈sI T ps:=List.mem_filterMap.2 ⟨some (g,y),List.mem_of_getElem? h,rfl⟩
theorem its_mem (h:ps[k]?=some (some (g,y))):y∈its ps:=List.mem_filterMap.2 ⟨some (g,y),List.mem_of_getElem? h,rfl⟩
theorem its_at (h:y∈its ps):∃ (k g:Nat),ps[k]?=some (some (g,y)):=by
  obtain ⟨o,ho,hy⟩:=List.mem_filterMap.1 h
  obtain ⟨k,hk⟩:=List.getElem?_of_mem ho
  cases o with
  | none=>cases hy
  | some q=>obtain ⟨g,z⟩:=q;cases hy;exact ⟨k,g,hk⟩
theorem its_none (h:ps[k]?=some none):its (ps.take (k+1))=its (ps.take k):=by
  unfold its;rw [List.take_add_one,h,List.filterMap_append];simp
theorem its_some (h:ps[k]?=some (some (g,y))):its (ps.take (k+1))=its (ps.take k)++[y]:=by
  unfold its;rw [List.take_add_one,h,List.filterMap_append];simp
theorem its_len:(its (ps.take k)).length≤k:=Nat.le_trans (List.length_filterMap_le _ _) (by rw [List.length_take];omega)
theorem at_cases (h:k < ps.length):ps[((k:Nat):Int).toNat]?=some none∨∃ g y,ps[((k:Nat):Int).toNat]?=some (some (g,y)):=by
  rw [Int.toNat_natCast]
  cases he:ps[k]? with
  | none=>rw [List.getElem?_eq_none_iff] at he;omega
  | some o =>
    cases o with
    | none=>exact .inl rfl
    | some q=>obtain ⟨g,y⟩:=q;exact .inr ⟨g,y,rfl⟩
def Beyond (ps:Pl) (n:Nat):Prop:=∀ k o,n≤k→ps[k]?=some o→o=none
theorem its_all {n:Nat} (h:Beyond ps n):its (ps.take n)=its ps:=by
  have h1:its (ps.drop n)=[]:=by
    unfold its
    rw [List.filterMap_eq_nil_iff]
    intro o ho
    obtain ⟨k,hk⟩:=List.getElem?_of_mem ho
    rw [List.getElem?_drop] at hk
    rw [h _ o (by omega) hk];rfl
  have h2:its ps=its (ps.take n)++its (ps.drop n):=by
    unfold its;rw [←List.filterMap_append,List.take_append_drop]
  rw [h2,h1,List.append_nil]
theorem set_split {α:Type} {l:List α} {a b:α} (h:l[k]?=some a):l=l.take k++a :: l.drop (k+1)∧l.set k b=l.take k++b :: l.drop (k+1):=by
  obtain ⟨hk,rfl⟩:=List.getElem?_eq_some_iff.1 h
  exact ⟨by rw [←List.drop_eq_getElem_cons hk,List.take_append_drop],List.set_eq_take_append_cons_drop.trans (if_pos hk)⟩
theorem put_items (h:ps[k]?=some none):(its (ps.set k (some (g,x)))).Perm (x :: its ps)∧(sI T (ps.set k (some (g,x)))).Perm (var g x.cells T :: sI T ps):=by
  obtain ⟨h1,h2⟩:=set_split (b:=some (g,x)) h
  constructor
  · rw [h2];conv=>rhs;rw [h1]
    unfold its
    simp only [List.filterMap_append,List.filterMap_cons,Option.map_some,Option.map_none]
    exact List.perm_middle
  · rw [h2];conv=>rhs;rw [h1]
    unfold sI
    simp only [List.filterMap_append,List.filterMap_cons,Option.map_some,Option.map_none]
    exact List.perm_middle
theorem take_items (h:ps[k]?=some (some (g,y))):(its ps).Perm (y :: its (ps.set k none))∧(sI T ps).Perm (var g y.cells T :: sI T (ps.set k none)):=by
  obtain ⟨h1,h2⟩:=set_split (b:=none) h
  constructor
  · rw [h2];conv=>lhs;rw [h1]
    unfold its
    simp only [List.filterMap_append,List.filterMap_cons,Option.map_some,Option.map_none]
    exact List.perm_middle
  · rw [h2];conv=>lhs;rw [h1]
    unfold sI
    simp only [List.filterMap_append,List.filterMap_cons,Option.map_some,Option.map_none]
    exact List.perm_middle
theorem beyond_set {n:Nat} {o:Option (Nat×Im)} (h:Beyond ps n) (hk:k < n):Beyond (ps.set k o) n:=fun j q hj hq=>by
  rw [List.getElem?_set_ne (by omega)] at hq
  exact h j q hj hq
theorem beyond_new {n:Nat}:Beyond (List.replicate 16 none) n:=fun k o _ h=>by
  rw [List.getElem?_replicate] at h
  split at h
  · cases h;rfl
  · cases h
theorem bun_perm {As Bs:List Sp} (h:As.Perm Bs):Re [bun As] [bun Bs]:=fun w0 M w hs=>by
  have h1:=St.bun_iff.1 hs
  exact St.bun_iff.2 (h1.perm (h.append_right _))
theorem bun_more {A:Sp} {As Bs:List Sp} (h:Bs.Perm (A :: As)):Re [A,bun As] [bun Bs]:=fun w0 M w hs=>by
  have h1:=Re.into w0 M w hs
  exact bun_perm ((List.perm_append_singleton A As).trans h.symm) w0 M w h1
theorem bun_less {A:Sp} {As Bs:List Sp} (h:As.Perm (A :: Bs)):Re [bun As] [bun Bs]:=fun w0 M w hs=>by
  have h1:=bun_perm h w0 M w hs
  have h2:=St.bun_iff.1 h1
  have h3:St w0 M (Bs++[]) w:=by
    have h4:St w0 M (A :: (Bs++[])) w:=h2
    exact ⟨h4.fr,fun B hB=>h4.at_ B (by simp at hB ⊢;exact .inr hB),(List.pairwise_cons.1 h4.nd).2,fun k hk=>h4.mine k (by rw [feet_cons];exact List.mem_append_right _ hk)⟩
  exact St.bun_iff.2 h3
end
end Go.LK.Nd
namespace Go.LK.Nd
open Go Go.LK
def mean (sum n:Int):Int:=Sh.keep (if Sh.keep n 2147483647=0 then 0 else Sh.keep sum 2147483647 / Sh.keep n 2147483647) 2147483647
def verdict (m low high:Int):Int:=if high < m then 1 else if m < low then 2 else 0
theorem verdict_cases (m low high:Int):verdict m low high=0∨verdict m low high=1∨verdict m low high=2:=by
  unfold verdict;split
  · exact .inr (.inl rfl)
  · split
    · exact .inr (.inr rfl)
    · exact .inl rfl
def wants (v:Int):Int:=if v=1 then -1 else if v=2 then 1 else 0
theorem wants_bnd (v:Int):-1≤wants v∧wants v≤1:=by unfold wants;(repeat' split)<;>omega
def turnStep (way held v dwell:Int):Int×Int×Int :=
  if way=0∧held=0 then (if wants v=0 then (0,way,held) else (wants v,wants v,1))
  else if wants v=-way∧dwell≤held then (wants v,wants v,1)
  else ((if wants v=way then wants v else 0),way,addC held 1)
def dimStep (tiers tier held v:Int) (op:Bool) (dwell:Int):Bool×Int×Int :=
  if addC held 1 < dwell then (false,tier,addC held 1)
  else if v=1 then (if tier=0 then (false,tier,addC held 1) else (true,tier-1,0))
  else if v=2 then (if op=false∨tier=tiers then (false,tier,addC held 1) else (true,tier+1,0))
  else (false,tier,addC held 1)
theorem dim_bnd {tiers tier held v dwell:Int} {op:Bool} (h0:0≤tier) (h1:tier≤tiers):0≤(dimStep tiers tier held v op dwell).2.1∧(dimStep tiers tier held v op dwell).2.1≤tiers:=by
  unfold dimStep
  split
  · exact ⟨h0,h1⟩
  · split
    · split
      · exact ⟨h0,h1⟩
      · constructor<;>dsimp only<;>omega
    · split
      · split
        · exact ⟨h0,h1⟩
        · rename_i h;constructor<;>dsimp only<;>omega
      · exact ⟨h0,h1⟩
theorem turn_bnd {way held v dwell:Int} (h0:-1≤way) (h1:way≤1):-1≤(turnStep way held v dwell).2.1∧(turnStep way held v dwell).2.1≤1:=by
  have h2:=wants_bnd v
  unfold turnStep
  (repeat' split)<;>constructor<;>dsimp only<;>omega
def hasL (lev level:Int):Bool:=decide (0≤level)&&decide (level < lev)
theorem hasL_iff {lev level:Int}:hasL lev level=true↔0≤level∧level < lev:=by simp [hasL]
def pct (a b:Int):Int:=Sh.keep ((Sh.keep a 2147483647*Sh.keep b 2147483647+100-1) / 100) 2147483647
theorem mul_bnd {a b:Int} (h1:0≤a∧a≤2147483647) (h2:0≤b∧b≤2147483647):0≤a*b∧a*b≤4611686014132420609 :=
  ⟨Int.mul_nonneg h1.1 h2.1,Int.le_trans (Int.mul_le_mul h1.2 h2.2 h2.1 (by decide)) (by decide)⟩
def within (n least greatest:Int):Bool:=decide (least≤n)&&decide (n≤greatest)
theorem within_iff {n a b:Int}:within n a b=true↔a≤n∧n≤b:=by simp [within]
def okR (id fr to code thr ep tier:Int):Bool :=
  within code 1 10&&!decide (fr=to)&&within id 0 281474976710655&&within fr 0 7&&within to (-1) 7&&within thr 0 128&&within ep 0 4294967295&&within tier 0 7
def okQ (id fr to level dl bu:Int):Bool :=
  within id 0 281474976710655&&within fr (-1) 7&&within to 0 7&&within level 0 127&&within dl 0 1099511627776&&within bu 0 65535&&!decide (fr=to)
def part (left weight:Int):Int:=Sh.keep left 1099511627776*Sh.keep weight 8 / 8
def hop (p most:Int):Int:=if Sh.keep most 65535 < Sh.keep p 1099511627776 / 2 then Sh.keep most 65535 else Sh.keep p 1099511627776 / 2
def callS (now dl w most:Int):Int×Int×Bool:=if hop (part (Sh.left dl now) w) most=0 then (0,0,false) else (later now (part (Sh.left dl now) w),hop (part (Sh.left dl now) w) most,true)
theorem part_mul {left weight:Int}:0≤Sh.keep left 1099511627776*Sh.keep weight 8∧Sh.keep left 1099511627776*Sh.keep weight 8≤8796093022208:=by
  have h1:=Sh.keep_bnd left (by decide:(0:Int)≤1099511627776);have h2:=Sh.keep_bnd weight (by decide:(0:Int)≤8)
  exact ⟨Int.mul_nonneg h1.1 h2.1,Int.le_trans (Int.mul_le_mul h1.2 h2.2 h2.1 (by decide)) (by decide)⟩
end Go.LK.Nd
namespace Go.LK
open Go Go.RowKit
theorem sel_apb {L:List Sp} {is js:List Nat}:LK.sel L (is++js)=LK.sel L is++LK.sel L js:=List.filterMap_append
theorem St.dropR {w0 w:World} {M:List Nat} {L R:List Sp} (h:St w0 M (L++R) w):St w0 M L w :=
  ⟨h.fr,fun A hA=>h.at_ A (by simp [hA]),(List.pairwise_append.1 h.nd).1,fun k hk=>h.mine k (by
    obtain ⟨A,hA,hk⟩:=mem_feet.1 hk
    exact mem_feet.2 ⟨A,List.mem_append.2 (.inl hA),hk⟩)⟩
theorem QI_out {P:Program} {i:Ci} {id:Nat} {a:Act} {w:World}:∀ {k:List It},pop id k=none→i.R0 (.exit id) a w→QI P i k (.exit id) a w
  | [],_,h=>h
  | .blk j :: k,hp,h=>by
    simp only [pop] at hp
    simp only [QI,Exit.inBlock]
    cases hb:Nat.beq j id
    · rw [hb] at hp
      have hne:¬id=j:=fun e=>by subst e;simp at hb
      have:=QI_out (P:=P) (i:=i) (a:=a) (w:=w) (by simpa using hp) h
      simpa [hne] using this
    · rw [hb] at hp;simp at hp
  | .code x :: k,hp,h=>QI_out (k:=k) (by simpa [pop] using hp) h
  | .scp :: k,hp,h=>QI_out (k:=k) (by simpa [pop] using hp) h
  | .lp I :: k,hp,h=>QI_out (k:=k) (by simpa [pop] using hp) h
section
variable {c:Cx} {i:Ci} {k:List It} {E:Env} {L:List Sp}
theorem RE.brk {X Z:Type} {rec:LoopState→Option Code→Loop} {l D id:Nat} {φ:Nat→X→Prop} {LL:X→List Sp} {ψ:Code→Z→Prop} {LX:Z→List Sp} {m:Nat} {r:Loop} (z:Z) (hz:ψ (.exit id) z) (hp:pop id k=none) (hR:i.R0=RE c rec l D φ LL ψ LX m)
    (is:List Nat) (hn:is.Nodup) (hL:LK.sel L is=LK.blk l (.loop r) :: LK.blk D (.deferred (some [])) :: LX z) (hrec:∀ x,{ r with state:=.done,pending:=some x }=rec .done (some x)):JI c i (.code (.exit id) :: k) E L:=fun _ a w _ hs =>
  wpIn_exit (QI_out hp (by
    rw [hR]
    exact RE.out z hz (.inr ⟨id,rfl,rfl⟩) hrec (hL ▸ hs.sel hn)))
theorem JI.rangeO {g:Operand} {ps:List Tmp} {assign body:Code} {gf:Nat} {lb:Array Value} {RoI RoA:List Sp} {nx:List (List Value)→List Value→Prop} {full:List (List Value)→Prop} {X Z:Type} (φ:List (List Value)→X→Prop) (LL:X→List Sp) (ψ:Code→Z→Prop) (LX:Z→List Sp)
    (hro:i.ro=none) (hg:ev E g=some (.func (.func gf) #[] lb)) (eg:∀ args w,(callFunc gf args).run c.P w=.ok (.enter gf args) w) (hit:ItN c.P gf lb RoI nx full) (hps:∀ vs x,nx vs x→x.length=ps.length) (hpn:ps.all (fun p=>Nat.blt p c.n)=true)
    (x0:X) (h0:φ [] x0) (is js:List Nat) (hn:(is++js).Nodup) (hL:LK.sel L is=LL x0) (hA:LK.sel L js=RoA) (hsub:∀ A∈RoI,A∈c.Ro∨A∈RoA)
    (round:∀ (W1:World) (M1:List Nat) (l D:Nat) (rec:LoopState→Option Code→Loop) vs y x,(∀ s p,(rec s p).state=s)→(∀ s p s' p',{ rec s p with state:=s',pending:=p' }=rec s' p')→φ vs y→nx vs x →
      JI { c with w0:=W1,M:=M1 } ⟨some l,i.dp-1-1,[],fun _ _ _=>False⟩ [.code assign,.lp (BeginI { c with w0:=W1,M:=M1 } ⟨some l,i.dp-1-1,[],RE { c with w0:=W1,M:=M1 } rec l D (fun _ y=>φ (vs++[x]) y) LL ψ LX 0⟩ l body)] (envP ps x E) (LK.blk l (.loop (rec .ready none)) :: LK.blk D (.deferred (some [])) :: LL y))
    (done:∀ l D r vs y,full vs→φ vs y→JI c { i with ds:={ target:=.collected D,args:=#[] } :: i.ds } k E (LK.blk l (.loop r) :: LK.blk D (.deferred (some [])) :: LL y))
    (stop:∀ l D r x z,ψ x z→JI c { i with ds:={ target:=.collected D,args:=#[] } :: i.ds } (.code x :: k) E (LK.blk l (.loop r) :: LK.blk D (.deferred (some [])) :: LX z)) :
    JI c i (.code (.rangeFunc g ps.toArray assign body) :: k) E L:=fun ok a w ha hs=>by
  have hst:St c.w0 c.M (LL x0++RoA) w:=by have h_:=hs.sel hn;rwa [sel_apb,hL,hA] at h_
  show (Code.rangeFunc g ps.toArray assign body).wpIn (FW i.ro) i.dp c.P (QI c.P i k) a w
  refine wpIn_rangeFunc ?_
  intro fn _
  obtain ⟨rec,hrec⟩:∃ rec:LoopState→Option Code→Loop,rec=fun st pe=>loopRec fn a.tmps ps.toArray assign body w.heap.size st pe:=⟨_,rfl⟩
  have hS1:∀ s p,(rec s p).state=s:=fun s p=>by rw [hrec];rfl
  have hS2:∀ s p s' p',{ rec s p with state:=s',pending:=p' }=rec s' p':=fun s p s' p'=>by rw [hrec];rfl
  have hst1:=(hst.alloc (.deferred (some []))).alloc (.loop (rec .ready none))
  rw [World.size_alloc] at hst1
  have hent:=run_enterLoop_outer (P:=c.P) (w:=w) fn a.tmps ps.toArray assign body
  have haD:∀ D,HasD c.n ({ target:=.collected D,args:=#[] } :: i.ds) { a with defers:=[{ target:=.collected D,args:=#[] }]++a.defers } E:=fun D=>⟨ha.size,by rw [ha.defers];rfl,ha.at_⟩
  refine ⟨w.heap.size+1,[{ target:=.collected w.heap.size,args:=#[] }],(w.alloc (.deferred (some []))).alloc (.loop (rec .ready none)),{ target:=.fn (.func gf) lb,args:=#[.func (.yield (w.heap.size+1)) #[] #[]] },(w.alloc (.deferred (some []))).alloc (.loop (rec .ready none)),gf,
    #[.func (.yield (w.heap.size+1)) #[] #[]]++lb,(w.alloc (.deferred (some []))).alloc (.loop (rec .ready none)),?_,?_,fun _ _=>trivial,?_,fun h=>(by cases h),?_⟩
  · rw [hrec]
    show (Instr.enterLoop fn a.tmps ps.toArray assign body i.ro).run c.P w=_
    rw [hro]
    exact hent
  · have he:a.eval (.const (.func (.yield (w.heap.size+1)) #[] #[]))=.func (.yield (w.heap.size+1)) #[] #[]:=rfl
    simp [resolve,Deferred.ofValue,ha.ev hg,he]
  · simp [invoke,eg]
  · have hro':FW i.ro=FW none:=by rw [hro]
    have hst2:St c.w0 c.M ((LK.blk (w.heap.size+1) (.loop (rec .ready none)) :: LK.blk w.heap.size (.deferred (some [])) :: LL x0)++RoA) ((w.alloc (.deferred (some []))).alloc (.loop (rec .ready none))):=hst1
    have hst3:=hst2.dropR
    have hc:=hit (w.heap.size+1) (i.dp-1) X (Code×Z) φ (fun y=>LK.blk (w.heap.size+1) (.loop (rec .ready none)) :: LK.blk w.heap.size (.deferred (some [])) :: LL y) (fun z=>ψ z.1 z.2) (fun z=>LK.blk (w.heap.size+1) (.loop (rec .done (some z.1))) :: LK.blk w.heap.size (.deferred (some [])) :: LX z.2) c.Ro ((w.alloc (.deferred (some []))).alloc (.loop (rec .ready none))) x0
      (fun A hA=>by
        have hA':A∈c.Ro∨A∈RoA:=by
          rcases List.mem_append.1 hA with h|h
          · exact hsub A h
          · exact .inl h
        rcases hA' with hA'|hA'
        · exact Cx.roAll ok hst3 A hA'
        · exact ⟨hst2.at_ A (List.mem_append.2 (.inr hA')),fun k hk hk'=>by
            obtain ⟨B,hB,hk'⟩:=mem_feet.1 hk'
            exact (List.pairwise_append.1 hst2.nd).2.2 B hB A hA' k hk' hk⟩)
      (fun vs y x W1 hy hx hR hW=>by
        have hl:W1.heap[w.heap.size+1]?=some (.loop (rec .ready none)):=hW.at_ (LK.blk (w.heap.size+1) (.loop (rec .ready none))) (by simp)
        have hyl:=run_yield (P:=c.P) (args:=x.toArray) hl (by rw [hrec];simp [loopRec,hps vs x hx])
        have hst2:=round W1 (feet (LK.blk (w.heap.size+1) (.loop (rec .ready none)) :: LK.blk w.heap.size (.deferred (some [])) :: LL y)) (w.heap.size+1) w.heap.size rec vs y x hS1 hS2 hy hx (fun A hA=>hR A (List.mem_append.2 (.inr hA))) { tmps:=(ps.zip x).foldl (fun t (p,v)=>t.setIfInBounds p v) a.tmps,defers:=[] } W1 (has_params (List.all_eq_true.1 hpn) ⟨ha.size,rfl,ha.at_⟩ (hps vs x hx)) hW
        have e1:(rec .ready none).fn=fn:=by rw [hrec];rfl
        have e2:(rec .ready none).params=ps.toArray:=by rw [hrec];rfl
        have e3:(rec .ready none).assign=assign:=by rw [hrec];rfl
        have e4:(rec .ready none).body=body:=by rw [hrec];rfl
        have e5:(rec .ready none).tmps=a.tmps:=by rw [hrec];rfl
        rw [e1,e2,e3,e4,e5] at hyl
        have e6:(ps.toArray.zip x.toArray).foldl (fun t (p,v)=>t.setIfInBounds p v) a.tmps=(ps.zip x).foldl (fun t (p,v)=>t.setIfInBounds p v) a.tmps:=by simp
        rw [e6] at hyl
        have hri:RoundIn (FW none) (i.dp-1-1) c.P (w.heap.size+1) fn ((ps.zip x).foldl (fun t (p,v)=>t.setIfInBounds p v) a.tmps) assign body W1 (fun e W'=>(e=.returned (.bool true)∧JK { c with w0:=W1,M:=feet (LK.blk (w.heap.size+1) (.loop (rec .ready none)) :: LK.blk w.heap.size (.deferred (some [])) :: LL y) } rec (w.heap.size+1) w.heap.size (fun _ y=>φ (vs++[x]) y) LL (0+1) W')∨(e=.returned (.bool false)∧JX { c with w0:=W1,M:=feet (LK.blk (w.heap.size+1) (.loop (rec .ready none)) :: LK.blk w.heap.size (.deferred (some [])) :: LL y) } rec (w.heap.size+1) w.heap.size ψ LX W')):=roundIn_of_wpIn trivial hst2
        refine ⟨fn,_,assign,body,hyl,RoundIn.mono hri ?_⟩
        rintro e W' (⟨rfl,y',hy',hs'⟩|⟨rfl,x',z,hz,hs'⟩)
        · exact .inl ⟨rfl,y',hy',hs'⟩
        · exact .inr ⟨rfl,(x',z),hz,hs'⟩)
      h0 hst2.own
    rw [hro']
    refine hc.mono ?_
    rintro e W' ⟨⟨v,rfl⟩,hJ⟩
    rcases hJ with ⟨vs,y,hfull,hy,hW0⟩|⟨⟨x,z⟩,hz,hW0⟩
    · have hW:St c.w0 c.M (LK.blk (w.heap.size+1) (.loop (rec .ready none)) :: LK.blk w.heap.size (.deferred (some [])) :: LL y) W':=by
        exact (hst2.back hW0).dropR
      have hl:W'.heap[w.heap.size+1]?=some (.loop (rec .ready none)):=hW.at_ (LK.blk (w.heap.size+1) (.loop (rec .ready none))) (by simp)
      have he:=run_endLoop (P:=c.P) hl (by rw [hS1];decide)
      have e1:(rec .ready none).pending=none:=by rw [hrec];rfl
      rw [e1] at he
      refine ⟨none,_,he,?_⟩
      have:=done (w.heap.size+1) w.heap.size { rec .ready none with state:=.exhausted,pending:=none } vs y hfull hy ok _ _ (haD w.heap.size) (hW.putObj (i:=0) (o':=.loop { rec .ready none with state:=.exhausted,pending:=none }) rfl)
      rw [QI_ds] at this
      exact this
    · have hW:St c.w0 c.M (LK.blk (w.heap.size+1) (.loop (rec .done (some x))) :: LK.blk w.heap.size (.deferred (some [])) :: LX z) W':=by
        exact (hst2.back hW0).dropR
      have hl:W'.heap[w.heap.size+1]?=some (.loop (rec .done (some x))):=hW.at_ (LK.blk (w.heap.size+1) (.loop (rec .done (some x)))) (by simp)
      have he:=run_endLoop (P:=c.P) hl (by rw [hS1];decide)
      have e1:(rec .done (some x)).pending=some x:=by rw [hrec];rfl
      rw [e1] at he
      refine ⟨some x,_,he,?_⟩
      have:=stop (w.heap.size+1) w.heap.size { rec .done (some x) with state:=.exhausted,pending:=some x } x z hz ok _ _ (haD w.heap.size) (hW.putObj (i:=0) (o':=.loop { rec .done (some x) with state:=.exhausted,pending:=some x }) rfl)
      show x.wpIn (FW none) i.dp c.P (QI c.P i k) _ _
      have h2:x.wpIn (FW i.ro) i.dp c.P (QI c.P { i with ds:={ target:=.collected w.heap.size,args:=#[] } :: i.ds } k) { a with defers:=[{ target:=.collected w.heap.size,args:=#[] }]++a.defers } _:=this
      rw [QI_ds,hro'] at h2
      exact h2
end
end Go.LK
namespace Go.LK
open Go Go.RowKit
section
variable {c:Cx} {i:Ci} {k:List It} {E:Env} {L:List Sp} {ops:Array Oper} {rest:List Oper} {ty:TypeId} {d:Nat} {pos:String} {af:Array Edge} {o:Op} {v:Value} {j t:Nat} {want b:Bool}
theorem OI.gl {R:Value→List Sp→Prop} (hj:(ops[j]?).bind (·.dst)=some t) (ht:look E t=some (.bool b)) (hb:b=want) (hn:Nat.blt t c.n=true) (hl:Lo c E L o ty R) (hd:Nat.blt d c.n=true) (h:∀ v L',R v L'→OI c i ops rest k ((d,v) :: E) L') (hnd:noDefer o=true:=by rfl) :
    OI c i ops (⟨some d,o,ty,pos,af,some (j,want)⟩ :: rest) k E L:=fun ok a w ha hs =>
  wpListIn_step fun _ hK=>by
    rw [show Region.wanted ⟨some d,o,ty,pos,af,some (j,want)⟩ (yielded ops a.tmps)=true from wanted_yes (a:=bare a) (j:=j) (t:=t) (want:=want) ha.bare rfl hj (hb ▸ ht) hn,if_pos rfl]
    exact wpIn_move (b:=bare a) (X:=fun v L' w'=>R v L'∧St c.w0 c.M L' w') (noDefer_of hnd) (by rw [bare_eval]) (fun d' hd'=>by cases hd';rw [ha.bare.size];exact Nat.le_of_ble_eq_true hd)
      (hl ok (bare a) w ha.bare hs _ _ _ _ _ _ fun v L' _ hR hs'=>⟨v,L',rfl,hR,hs'⟩) fun v L' w' hX=>hK _ _ (h v L' hX.1 ok _ w' (ha.put v hd) hX.2)
theorem OI.gq (hj:(ops[j]?).bind (·.dst)=some t) (ht:look E t=some (.bool b)) (hb:b=want) (hn:Nat.blt t c.n=true) (hq:Qt c E L o ty v) (hd:Nat.blt d c.n=true) (h:OI c i ops rest k ((d,v) :: E) L) (hnd:noDefer o=true:=by rfl) :
    OI c i ops (⟨some d,o,ty,pos,af,some (j,want)⟩ :: rest) k E L :=
  OI.gl (R:=fun u L'=>u=v∧L'=L) hj ht hb hn (fun ok a w ha hs d pos af g K Q hK=>wp_loud (hq ok a w ha hs _ _ _ _) (hK v L w ⟨rfl,rfl⟩ hs)) hd (by rintro _ _ ⟨rfl,rfl⟩;exact h) hnd
theorem OI.gp (hj:(ops[j]?).bind (·.dst)=some t) (ht:look E t=some (.bool b)) (hb:b=want) (hn:Nat.blt t c.n=true) (hq:Pu c E o ty v) (hd:Nat.blt d c.n=true) (h:OI c i ops rest k ((d,v) :: E) L) (hnd:noDefer o=true:=by rfl) :
    OI c i ops (⟨some d,o,ty,pos,af,some (j,want)⟩ :: rest) k E L:=OI.gq hj ht hb hn hq.qt hd h hnd
theorem OI.gskip {u:Value} (hj:(ops[j]?).bind (·.dst)=some t) (ht:look E t=some u) (hu:boolOf u≠some want) (hn:Nat.blt t c.n=true) (hd:Nat.blt d c.n=true) (h:OI c i ops rest k ((d,undef) :: E) L) :
    OI c i ops (⟨some d,o,ty,pos,af,some (j,want)⟩ :: rest) k E L:=fun ok a w ha hs =>
  wpListIn_step fun _ hK=>by
    rw [show Region.wanted ⟨some d,o,ty,pos,af,some (j,want)⟩ (yielded ops a.tmps)=false from wanted_no (a:=bare a) (j:=j) (t:=t) (want:=want) ha.bare rfl hj ht hu hn,if_neg (by simp)]
    exact ⟨fun _ _=>trivial,hK _ _ (h ok _ w (ha.put undef hd) hs)⟩
theorem OI.gyieldN {l m:Nat} {x:Operand} {xs:List Operand} {ts:Array TypeId} {vs:List Value} (R LC:List Sp) {K:Bool→List Sp→Prop} (hj:(ops[j]?).bind (·.dst)=some t) (ht:look E t=some (.bool b)) (hb:b=want) (hn:Nat.blt t c.n=true) (hdp:i.dp=m) (hro:i.ro=none) (hx:ev E x=some (.func (.yield l) #[] #[])) (hxs:xs.map (ev E)=vs.map some) (hL:L=R++LC)
    (hy:c.Ok→∀ W1,St c.w0 c.M L W1→St W1 (feet LC) LC W1→YieldAt (FW none) (m-1) c.P l vs.toArray W1 fun e W'=>∃ b L',e=.returned (.bool b)∧K b L'∧St W1 (feet LC) L' W') (hd:Nat.blt d c.n=true)
    (h:∀ b L',K b L'→OI c i ops rest k ((d,.bool b) :: E) (R++L')):OI c i ops (⟨some d,.call { callee:=.value x,args:=xs.toArray,argTypes:=ts },ty,pos,af,some (j,want)⟩ :: rest) k E L:=fun ok a w ha hs =>
  wpListIn_step fun K' hK=>by
    rw [show Region.wanted ⟨some d,.call { callee:=.value x,args:=xs.toArray,argTypes:=ts },ty,pos,af,some (j,want)⟩ (yielded ops a.tmps)=true from wanted_yes (a:=bare a) (j:=j) (t:=t) (want:=want) ha.bare rfl hj (hb ▸ ht) hn,if_pos rfl]
    subst hdp hL
    have hs1:St c.w0 c.M (LC++R) w:=hs.perm List.perm_append_comm
    obtain ⟨fn,tmps,assign,body,hrun,hround⟩:=hy ok w hs hs1.own
    have hxs':xs.map a.eval=vs:=by
      rw [←bare_eval];exact ha.bare.evs hxs
    have hexec:(execOp a.eval ⟨some d,.call { callee:=.value x,args:=xs.toArray,argTypes:=ts },ty,pos,af,some (j,want)⟩).run c.P w=.ok (.round l fn tmps assign body) w:=by
      simp [execOp,resolve,Deferred.ofValue,invoke,ha.ev hx,hxs',callFunc,hrun]
    refine ⟨fun _ _=>trivial,?_⟩
    rw [Oper.semAt_eq i.ro _ _ (noDefer_of rfl),hexec,Oper.uponIn_round,hro]
    refine ⟨fun h=>(by cases h),?_⟩
    refine RoundIn.mono hround ?_
    rintro e W' ⟨b,L',rfl,hk,hst⟩
    exact hK _ _ (h b L' hk ok _ W' (ha.put _ hd) ((hs1.back hst).perm List.perm_append_comm))
end
section
variable {c:Cx} {E:Env} {L:List Sp} {ty t T:TypeId} {x z:Operand} {α:Type} {l:List α}
theorem Pu.headArr {n e g off s:Nat} {m:Int} (hT:∀ w,(underlying T).run c.P w=.ok (.array n e) w) (hs:∀ w,(sizeOf e).run c.P w=.ok s w) (hx:ev E x=some (.pointer (some ⟨g,off,none⟩))) (hz:ev E z=some (.int .i64 m)) (h0:0≤m) (h1:m≤n) :
    Pu c E (.slice T x none (some z) none) ty (.slice (some ⟨g,off,none⟩) m.toNat n):=fun a w ha _ _ _ _=>by
  obtain ⟨k,rfl⟩:=Int.eq_ofNat_of_zero_le h0
  have h2:k≤n:=by omega
  by_cases hn:n=0
  · subst hn
    obtain rfl:k=0:=by omega
    simp [execOp,ha.ev hx,ha.ev hz,Instr.sliceAt,Instr.sureAddr,Instr.sliceBounds,Instr.sliceBound,asIntOf,hT,hs]
  · simp [execOp,ha.ev hx,ha.ev hz,Instr.sliceAt,Instr.sureAddr,Instr.sliceBounds,Instr.sliceBound,asIntOf,hT,hs,Addr.add,h2]
theorem hcut_elt {w:World} {g off n m:Nat} {hd:List Value} {f:α→Value} (h:(var g (hd++l.map f) t).holds w) (hh:hd.length=off) (hl:l.length=n) (hm:m≤n) (hn:n≤maxLen):Elt w (.slice (some ⟨g,off,none⟩) m n) 1 ((l.take m).map fun x=>[f x]):=by
  subst hl hh
  have hlen:(l.take m).length=m:=by simp;omega
  refine ⟨fun x hx=>?_,⟨_,l.length,by rw [List.length_map,hlen],by rw [List.length_map,hlen];exact hm,hn⟩,fun _=>⟨l.length,by rw [List.length_map,hlen];rfl⟩,fun i e j u hi hj=>?_⟩
  · obtain ⟨y,_,rfl⟩:=List.mem_map.1 hx;rfl
  · rw [List.getElem?_map] at hi
    obtain ⟨y,hy,rfl⟩:=Option.map_eq_some_iff.1 hi
    have hj0:j=0:=by
      have:=(List.getElem?_eq_some_iff.1 hj).1
      simp at this;exact this
    subst hj0
    simp at hj;subst hj
    have hy':l[i]?=some y:=by
      have hlt:=(List.getElem?_eq_some_iff.1 hy).1
      rw [hlen] at hlt
      rwa [List.getElem?_take,if_pos hlt] at hy
    have hg:w.heap[g]?=some (.cells (hd++l.map f).toArray t (0,0)):=h
    show w.cell? ⟨g,hd.length+i*1+0,none⟩=_
    rw [cell_of_row w g _ _ t _ hg]
    show (hd++List.map f l).toArray[hd.length+i*1+0]?=_
    rw [List.getElem?_toArray,List.getElem?_append_right (by omega),show hd.length+i*1+0-hd.length=i from by omega,List.getElem?_map,hy']
    rfl
theorem Src.hcutRo {g off n m:Nat} {hd:List Value} {f:α→Value} (i:Nat) (hi:c.Ro[i]?=some (var g (hd++l.map f) t)) (hh:hd.length=off) (hl:l.length=n) (hm:m≤n) (hn:n≤maxLen):Src c L (.slice (some ⟨g,off,none⟩) m n) 1 ((l.take m).map fun x=>[f x]):=fun ok _ hs=>hcut_elt (c.ro ok hs hi) hh hl hm hn
end
end Go.LK
namespace Go.LK
open Go Go.RowKit
def OwnsZ (w:World) (t:TypeId) (v:Value) (ns:List Int):Prop :=
  ∃ g cap cur fz,v=.slice (some ⟨g,0,none⟩) ns.length cap∧w.heap[g]?=some (.cells cur t fz)∧(∀ i,i < cap→¬(fz.1≤i∧i < fz.2))∧ns.length≤cap∧cap≤maxLen∧cur.size=cap∧cur.toList.take ns.length=ns.map (Value.int .u8)
def rowz (v:Value) (t:TypeId) (ns:List Int):Sp where
  foot:=v.ownBlock.toList
  holds w:=OwnsZ w t v ns
  lt w h k hk:=by
    obtain ⟨g,cap,cur,fz,rfl,hg,_⟩:=h
    have:k=g:=by simpa [Value.ownBlock] using hk
    subst this
    exact (Array.getElem?_eq_some_iff.1 hg).1
  loc w w' h hh:=by
    obtain ⟨g,cap,cur,fz,rfl,hg,rest⟩:=hh
    exact ⟨g,cap,cur,fz,rfl,by rw [h g (by simp [Value.ownBlock])];exact hg,rest⟩
def encU (n:Int):List Value:=[.int .u8 n]
theorem run_storeCells_atZ (P:Program) (g o:Nat) (t:TypeId) (fz:Nat×Nat):∀ (vs:List Value) (i:Nat) (cur:Array Value) (w:World),w.heap[g]?=some (.cells cur t fz)→(∀ i,i < cur.size→¬(fz.1≤i∧i < fz.2))→o+i+vs.length≤cur.size→(∀ v∈vs,v.oneCell'=true) →
    (storeCells ⟨g,o,none⟩ vs i).run P w=.ok () (w.setRow g (cur.toList.take (o+i)++vs++cur.toList.drop (o+i+vs.length)).toArray)
  | [],i,cur,w,hg,_,_,_=>by
    simp only [storeCells,List.append_nil,List.length_nil,Nat.add_zero,List.take_append_drop,Array.toArray_toList]
    rw [setRow_self w g cur t fz hg]
    rfl
  | v :: rest,i,cur,w,hg,hfz,hl,h1=>by
    have hi:o+i < cur.size:=by simp at hl;omega
    have hadd:(⟨g,o,none⟩:Addr).add i=⟨g,o+i,none⟩:=by unfold Addr.add;split<;>simp_all
    have hcell:w.cell? ⟨g,o+i,none⟩=some cur[o+i]:=by simp [World.cell?,hg,hi]
    have hfro:w.frozen? ⟨g,o+i,none⟩=false:=by
      have h:=hfz _ hi
      obtain ⟨lo,hi'⟩:=fz
      simp only [World.frozen?,hg,Bool.and_eq_false_iff,decide_eq_false_iff_not]
      simp only at h
      omega
    have hst:(store ((⟨g,o,none⟩:Addr).add i) v).run P w=.ok () (w.setRow g (cur.setIfInBounds (o+i) v)):=by
      rw [hadd,run_store P w _ v _ (h1 v (by simp)),hcell]
      simp [hfro,setCell_eq_setRow w g (o+i) cur t fz v hg]
    have ih:=run_storeCells_atZ P g o t fz rest (i+1) (cur.setIfInBounds (o+i) v) (w.setRow g (cur.setIfInBounds (o+i) v)) (setRow_heap w g cur _ t _ hg) (by simpa using hfz) (by simp at hl ⊢;omega) (fun x hx=>h1 x (by simp [hx]))
    simp only [storeCells,Sem.run_bind,hst,Result.andThen_ok,ih,setRow_setRow]
    congr 3
    have e:=list_seg_step cur.toList (o+i) v rest (by simp at hl ⊢;omega)
    simpa [Array.toList_setIfInBounds,Nat.add_assoc] using e
theorem run_append_ownZ {P:Program} (w:World) (t ty e:TypeId) (i:TypeInfo) (ht:P.underlying t=some (.slice e)) (hi:P.info? e=some i) (hz:i.zero=some (.int .u8 0)) (hsize:i.size=1) (hby:i.bytes=1)
    (v:Value) (ns:List Int) (hown:OwnsZ w e v ns) (a:Addr) (c:Nat) (ms:List Int) (hnews:∀ j u,(ms.map (Value.int .u8))[j]?=some u→w.cell? (a.add j)=some u) (h63:ns.length+ms.length≤140737488355328) :
    ∃ v' w',(Builtin.append_ #[t,t] ty #[v,.slice (some a) ms.length c]).run P w=.ok v' w'∧OwnsZ w' e v' (ns++ms)∧w.grownBy w' v.ownBlock∧(v'.ownBlock=v.ownBlock∨v'.ownBlock=some w.heap.size):=by
  obtain ⟨g,cap,cur,fz,rfl,hg,hfz,hnc,hcm,hcs,htake⟩:=hown
  have hone:∀ u∈ms.map (Value.int .u8),u.oneCell'=true:=fun u hu=>by
    obtain ⟨x,_,rfl⟩:=List.mem_map.1 hu;rfl
  have hml:(ms.map (Value.int .u8)).length=ms.length:=by simp
  by_cases hroom:ns.length+ms.length≤cap
  · have hf:=run_firstCells_some (P:=P) w i.size ms.length a ms.length c (ms.map (Value.int .u8)) (by rw [hsize];simp) hnews
    have hst:=run_storeCells_atZ P g ns.length e fz (ms.map (Value.int .u8)) 0 cur w hg (by rw [hcs];exact hfz) (by rw [hml];omega) hone
    simp only [Nat.add_zero,hml] at hst
    have hr:(Builtin.append_ #[t,t] ty #[.slice (some ⟨g,0,none⟩) ns.length cap,.slice (some a) ms.length c]).run P w=.ok (.slice (some ⟨g,0,none⟩) (ns.length+ms.length) cap) (w.setRow g (cur.toList.take ns.length++ms.map (Value.int .u8)++cur.toList.drop (ns.length+ms.length)).toArray):=by
      rw [hsize] at hf
      simp [Builtin.append_,run_underlying ht,sizeOf,typeInfo,hi,hsize,Builtin.lenOf,hroom,hf,Addr.add_lit,hst]
    refine ⟨_,_,hr,⟨g,cap,_,fz,by rw [List.length_append],setRow_heap w g cur _ e _ hg,hfz,by rw [List.length_append];exact hroom,hcm,?_,?_⟩,⟨rfl,rfl,rfl,by simp,fun k _ hk=>setRow_other w g k _ (fun e=>hk (by simp [Value.ownBlock,e]))⟩,.inl rfl⟩
    · simp only [List.size_toArray,List.length_append,List.length_take,List.length_drop,Array.length_toList,hml]
      omega
    · have hlen:(ns.map (Value.int .u8)++ms.map (Value.int .u8)).length=(ns++ms).length:=by simp
      rw [htake,List.map_append,←hlen]
      exact List.take_left
  · have holds:∀ j u,(ns.map (Value.int .u8))[j]?=some u→w.cell? ((⟨g,0,none⟩:Addr).add j)=some u:=fun j u hu=>by
      have hadd:(⟨g,0,none⟩:Addr).add j=⟨g,j,none⟩:=by unfold Addr.add;split<;>simp_all
      rw [hadd,cell_of_row w g j cur e fz hg]
      rw [←htake,List.getElem?_take] at hu
      split at hu
      · simpa using hu
      · cases hu
    have hr:=run_append_grow (P:=P) w t ty e i (.int .u8 0) ht hi hz ⟨g,0,none⟩ ns.length cap (ns.map (Value.int .u8)) (by rw [hsize];simp) holds a ms.length c (ms.map (Value.int .u8)) (by rw [hsize];simp) hnews (by omega) (by omega) (by rw [hby];exact growslice_fits (by omega) (by omega))
    have hge:=grownCap_ge w (ns.length+ms.length) cap e
    have hcm2:grownCap w (ns.length+ms.length) cap e≤maxLen:=grownCap_le_maxLen w (ns.length+ms.length) cap e (by unfold maxLen;omega)
    refine ⟨_,_,hr,⟨w.heap.size,_,_,(0,0),by rw [List.length_append],heap_alloc_new w.drew _,fun i _=>by simp,by rw [List.length_append];exact hge,hcm2,?_,?_⟩,⟨rfl,rfl,rfl,by simp,fun k hk _=>Below.heap_alloc w.drew _ k hk⟩,.inr rfl⟩
    · have hz1:(Value.int IntKind.u8 0).cells.size=1:=rfl
      simp only [Array.size_append,List.size_toArray,size_zeroCells,hz1,hml,List.length_map]
      omega
    · have hlen:(ns.map (Value.int .u8)++ms.map (Value.int .u8)).length=(ns++ms).length:=by simp
      simp only [Array.toList_append,List.append_assoc,List.map_append]
      rw [←List.append_assoc,←hlen]
      exact List.take_left
def shrI (k:IntKind) (m s:Int):Int:=m.fdiv (2 ^ min s.toNat k.bits)
section
variable {c:Cx} {E:Env} {L:List Sp} {ty t S D T:TypeId} {x y:Operand} {V:Value}
theorem Pu.shrN {k yk:IntKind} {m s:Int} (hx:ev E x=some (.int k m)) (hy:ev E y=some (.int yk s)) (h0:0≤s) {ty':TypeId}:Pu c E (.binOp .shr T x y ty') ty (.int k (shrI k m s)):=fun a w ha _ _ _ _=>by
  have hn:¬s < 0:=by omega
  simp only [execOp,ha.ev hx,ha.ev hy]
  simp [eqGuard,binOp,Op.shift,hn,shrI]
theorem Pu.indexKL {n e:Nat} {kd:IntKind} {m:Int} {k:Nat} {α:Type} {f:α→Value} {l:List α} {b:α} (hT:∀ w,(underlying T).run c.P w=.ok (.array n e) w) (hs:∀ w,(sizeOf e).run c.P w=.ok 1 w) (hag:∀ w,(isAgg e).run c.P w=.ok false w)
    (hx:ev E x=some (.agg (l.map f).toArray)) (hy:ev E y=some (.int kd m)) (hk:m.toNat=k) (h0:0≤m) (h1:m < n) (hb:l[k]?=some b):Pu c E (.index T x y) ty (f b) :=
  Pu.indexK1 hT hs hag hx hy h0 h1 (by rw [hk,Nat.mul_one,List.getElem?_map,hb];rfl)
theorem Pu.tailArr {n e g lo:Nat} (hT:∀ w,(underlying T).run c.P w=.ok (.array n e) w) (hs:∀ w,(sizeOf e).run c.P w=.ok 1 w) (hx:ev E x=some (.pointer (some ⟨g,0,none⟩))) (hz:ev E y=some (.int .i64 (lo:Int))) (hlo:Nat.blt lo n=true) :
    Pu c E (.slice T x (some y) none none) ty (.slice (some ⟨g,lo,none⟩) (n-lo) (n-lo)):=fun a w ha _ _ _ _=>by
  have h2:lo < n:=Nat.le_of_ble_eq_true hlo
  have h3:¬n=lo:=by omega
  simp [execOp,ha.ev hx,ha.ev hz,Instr.sliceAt,Instr.sureAddr,Instr.sliceBounds,Instr.sliceBound,asIntOf,hT,hs,Addr.add,Nat.le_of_lt h2,h3]
  exact fun h=>h.symm
theorem Lo.copyV (i:Nat) {e g o m mc:Nat} {cs:List Value} {α:Type} {f:α→Value} {l:List α} {Y:Value} {inf:TypeInfo} {tv:TypeId} (cs':List Value) (hT:c.P.underlying T=some (.slice e)) (hinf:c.P.info? e=some inf) (hsz:inf.size=1)
    (hx:ev E x=some (.slice (some ⟨g,o,none⟩) m mc)) (hi:L[i]?=some (var g cs tv)) (hy:ev E y=some Y) (hs:Src c L Y 1 (l.map fun a=>[f a])) (hl:l.length=m) (hm:Nat.blt 0 m=true) (h1:∀ a∈l,(f a).oneCell'=true)
    (hcs:cs.take o++l.map f++cs.drop (o+m)=cs') (hfit:Nat.ble (o+m) cs.length=true) :
    Lo c E L (.call { callee:=.builtin .copy,args:=#[x,y],argTypes:=#[T,S] }) ty fun v L'=>v=.int .i64 (m:Int)∧L'=L.set i (var g cs' tv):=fun ok a w ha hst d pos af gd K Q hK=>by
  subst hl hcs
  have hh:w.heap[g]?=some (.cells cs.toArray tv (0,0)):=hst.at_ _ (List.mem_of_getElem? hi)
  have hE:=hs ok w hst
  obtain ⟨cap,hv⟩:=hE.addr (by
    intro hc
    have:=Nat.le_of_ble_eq_true hm
    have h0:=congrArg List.length hc
    simp at h0
    subst h0;simp at this)
  rw [List.length_map] at hv
  have hsrc:∀ j v,(l.map f)[j]?=some v→w.cell? ((⟨vblk Y,voff Y,none⟩:Addr).add j)=some v:=fun j u hu=>by
    rw [List.getElem?_map] at hu
    obtain ⟨n,hn,rfl⟩:=Option.map_eq_some_iff.1 hu
    have:=hE.cells j [f n] 0 _ (by rw [List.getElem?_map,hn];rfl) rfl
    rw [add_at]
    simpa using this
  have hr:=run_copy_row (P:=c.P) w T S ty e g o l.length mc ⟨vblk Y,voff Y,none⟩ l.length cap cs.toArray tv (l.map f) hT (by rw [hinf];simp [hsz]) hh (by simp) hsrc (by simpa using Nat.le_of_ble_eq_true hfit) (fun v hv=>by
    obtain ⟨a,ha,rfl⟩:=List.mem_map.1 hv;exact h1 a ha)
  rw [List.length_map] at hr
  refine wp_loud (v:=.int .i64 (l.length:Int)) (w':=w.setRow g (cs.take o++l.map f++cs.drop (o+l.length)).toArray) ?_ (hK _ _ _ ⟨rfl,rfl⟩ (hst.set hi (setRow_frame w g _) (setRow_heap w g _ _ tv (0,0) hh) (fun k hk=>.inl hk)))
  have hy':a.eval y=.slice (some ⟨vblk Y,voff Y,none⟩) l.length cap:=by rw [ha.ev hy];exact hv
  simp [execOp,resolve,invoke,builtin,ha.ev hx,hy',hr,goInt]
theorem Lo.bytesE (hS:c.P.underlying S=some .string) (hD:c.P.underlying D=some (.slice t)) (he:c.P.underlying t=some (.int .u8)) (hx:ev E x=some (str [])):Lo c E L (.convert S D x) ty fun v L'=>L'=rowz v t [] :: L:=fun _ a w ha hst d pos af g K Q hK=>by
  have hr:=run_bytes_of_string w S D t ⟨([]:List UInt8).toArray⟩ hS hD he
  have hcap:=grownCap_le_maxLen w 0 0 t (by unfold maxLen;omega)
  have hz:(ByteArray.mk ([]:List UInt8).toArray).size=0:=rfl
  rw [hz] at hr
  have hsz:(bytesRow ⟨([]:List UInt8).toArray⟩ (grownCap w 0 0 t)).size=grownCap w 0 0 t:=by simp [bytesRow,hz]
  rw [hsz] at hr
  refine wp_loud (v:=.slice (some ⟨w.heap.size,0,none⟩) 0 (grownCap w 0 0 t)) (w':=w.drew.alloc (.cells (bytesRow ⟨([]:List UInt8).toArray⟩ (grownCap w 0 0 t)) t (grownCap w 0 0 t,grownCap w 0 0 t+1))) ?_
    (hK _ _ _ rfl (hst.add ⟨rfl,rfl,rfl,by simp,fun k hk _=>Below.heap_alloc w.drew _ k hk⟩ (A':=rowz _ t []) ⟨w.heap.size,grownCap w 0 0 t,_,_,rfl,heap_alloc_new w.drew _,fun i hi=>?_,Nat.zero_le _,hcap,hsz,rfl⟩ (by simp [rowz,Value.ownBlock])))
  · have he:a.eval x=.string ⟨([]:List UInt8).toArray⟩:=ha.ev hx
    simp only [execOp,he,Sem.run_bind,hr,Result.andThen_ok]
    rfl
  · dsimp only;omega
theorem Lo.appendZ (i:Nat) {Y:Value} {ns ms:List Int} {e:TypeId} {inf:TypeInfo} (hT:c.P.underlying T=some (.slice t)) (hinf:c.P.info? t=some inf) (hz:inf.zero=some (.int .u8 0)) (hsz:inf.size=1) (hby:inf.bytes=1)
    (hx:ev E x=some V) (hi:L[i]?=some (rowz V t ns)) (hy:ev E y=some Y) (hs:Src c L Y 1 (ms.map encU)) (hne:ms≠[]) (h63:ns.length+ms.length≤140737488355328) :
    Lo c E L (.call { callee:=.builtin .append,args:=#[x,y],argTypes:=#[T,T] }) e fun v L'=>L'=L.set i (rowz v t (ns++ms)):=fun ok a w ha hst d pos af gd K Q hK=>by
  have hh:=hst.at_ _ (List.mem_of_getElem? hi)
  have hE:=hs ok w hst
  obtain ⟨cap,hv⟩:=hE.addr (by simpa using hne)
  rw [List.length_map] at hv
  have hcells:∀ j u,(ms.map (Value.int .u8))[j]?=some u→w.cell? ((⟨vblk Y,voff Y,none⟩:Addr).add j)=some u:=fun j u hu=>by
    rw [List.getElem?_map] at hu
    obtain ⟨n,hn,rfl⟩:=Option.map_eq_some_iff.1 hu
    have:=hE.cells j [Value.int .u8 n] 0 _ (by rw [List.getElem?_map,hn];rfl) rfl
    rw [add_at]
    simpa using this
  obtain ⟨v',w',hr,h2,h3,h5⟩:=run_append_ownZ (P:=c.P) w T e t inf hT hinf hz hsz hby V ns hh ⟨vblk Y,voff Y,none⟩ cap ms hcells h63
  refine wp_loud (v:=v') (w':=w') ?_ (hK _ _ _ rfl ?_)
  · have hy':a.eval y=.slice (some ⟨vblk Y,voff Y,none⟩) ms.length cap:=by rw [ha.ev hy];exact hv
    simp [execOp,resolve,invoke,builtin,ha.ev hx,hy',hr]
  · refine hst.set hi ⟨h3.os,h3.tape,h3.output,h3.size,fun k hk hn=>h3.block k hk (fun e=>hn (by simp [rowz,←e]))⟩ h2 (fun k hk=>?_)
    have hk':v'.ownBlock=some k:=by simpa [rowz] using hk
    rcases h5 with h5|h5
    · exact .inl (by simp [rowz,←h5,hk'])
    · rw [hk'] at h5;cases h5;exact .inr (Nat.le_refl _)
theorem Lo.strZ (i:Nat) {ns:List Int} (hS:∀ w,(underlying S).run c.P w=.ok (.slice t) w) (he:∀ w,(underlying t).run c.P w=.ok (.int .u8) w) (hD:∀ w,(underlying D).run c.P w=.ok .string w) (hx:ev E x=some V) (hi:L[i]?=some (rowz V t ns)) :
    Lo c E L (.convert S D x) ty fun v L'=>(∃ s,v=str s)∧L'=L:=fun _ a w ha hst d pos af g K Q hK=>by
  obtain ⟨g,cap,cur,fz,rfl,hg,hfz,hnc,hcm,hcs,htake⟩:=hst.at_ _ (List.mem_of_getElem? hi)
  have hload:(loadCells ⟨g,0,none⟩ ns.length).run c.P w=.ok (ns.map (Value.int .u8)).toArray w:=by
    have h:=run_loadCells_list (P:=c.P) (w:=w) ⟨g,0,none⟩ (ns.map (Value.int .u8)) (fun j u hu=>by
      rw [add_at,Nat.zero_add,cell_of_row w g j cur t fz hg]
      rw [←htake,List.getElem?_take] at hu
      split at hu
      · simpa using hu
      · cases hu)
    rwa [List.length_map] at h
  have hrun:=run_bytesToString w ⟨g,0,none⟩ ns.length cap _ hload
  refine wp_loud (w':=w) ?_ (hK (.string (ns.foldl (fun r n=>r.push (UInt8.ofNat n.toNat)) ByteArray.empty)) _ _ ⟨⟨(ns.foldl (fun r n=>r.push (UInt8.ofNat n.toNat)) ByteArray.empty).data.toList,?_⟩,rfl⟩ hst)
  · simp [execOp,ha.ev hx,convert,hS,hD,he,hrun]
  · simp [str]
end
end Go.LK
namespace Go.LK.Nd
open Go Go.LK
structure Pt where
  o:Nat
  w:Int
  s:Int
  a:Int
  b:Int
def Pt.cells (g:Nat) (p:Pt):List Value:=[.pointer (some ⟨g,p.o,none⟩),.int .i64 p.w,.int .i64 p.s,.int .i64 p.a,.int .i64 p.b]
def rq0:Pt:=⟨0,6,0,0,281474976710655⟩
def rq1:Pt:=⟨1,1,1,-1,7⟩
def rq2:Pt:=⟨2,1,0,0,7⟩
def rq3:Pt:=⟨3,1,0,0,127⟩
def rq4:Pt:=⟨4,6,0,0,1099511627776⟩
def rq5:Pt:=⟨5,2,0,0,65535⟩
theorem okQ_iff {id fr to level dl bu:Int}:okQ id fr to level dl bu=true↔(0≤id∧id≤281474976710655)∧(-1≤fr∧fr≤7)∧(0≤to∧to≤7)∧(0≤level∧level≤127)∧(0≤dl∧dl≤1099511627776)∧(0≤bu∧bu≤65535)∧¬fr=to:=by
  simp only [okQ,within,Bool.and_eq_true,decide_eq_true_eq,Bool.not_eq_true',decide_eq_false_iff_not,and_assoc]
theorem okQ_no {id fr to level dl bu:Int} (h:¬((0≤id∧id≤281474976710655)∧(-1≤fr∧fr≤7)∧(0≤to∧to≤7)∧(0≤level∧level≤127)∧(0≤dl∧dl≤1099511627776)∧(0≤bu∧bu≤65535)∧¬fr=to)):okQ id fr to level dl bu=false:=by
  cases hq:okQ id fr to level dl bu
  · rfl
  · exact absurd (okQ_iff.1 hq) h
def fits (n width:Int):Bool:=within width 1 6&&!decide (n < 0)&&!decide (0 < shrI .i64 n (8*width))
def rnames:List (List UInt8):=[[103,111,111,100],[114,101,102,117,115,101,100],[101,120,112,105,114,101,100],[115,112,101,110,116],[101,118,105,99,116,101,100],[108,97,116,101],[102,97,105,108,101,100],[99,117,116],[115,116,97,114,118,101,100],[98,114,111,107,101,110]]
def widths:List Int:=[1,4,2,2,1,1,1,1,1]
theorem widths_len:widths.length=9:=rfl
def okP (to:Int) (l:List Int):Bool:=decide (to < 8)&&(l.zip widths).all fun p=>fits p.1 p.2
theorem okP_no {to:Int} {l:List Int} (h:8≤to):okP to l=false:=by
  unfold okP;rw [decide_eq_false (by omega)];rfl
theorem okP_bad {to:Int} {l:List Int} {k:Nat} {x w:Int} (hx:l[k]?=some x) (hw:widths[k]?=some w) (h:¬fits x w=true):okP to l=false:=by
  unfold okP
  have hz:(l.zip widths)[k]?=some (x,w):=by rw [List.getElem?_zip_eq_some];exact ⟨hx,hw⟩
  rw [List.all_eq_false.2 ⟨_,List.mem_of_getElem? hz,h⟩,Bool.and_false]
theorem okP_next {l:List Int} {k:Nat} {x w:Int} (h:((l.zip widths).take k).all (fun p=>fits p.1 p.2)=true) (hx:l[k]?=some x) (hw:widths[k]?=some w) (hf:fits x w=true):((l.zip widths).take (k+1)).all (fun p=>fits p.1 p.2)=true:=by
  have hz:(l.zip widths)[k]?=some (x,w):=by rw [List.getElem?_zip_eq_some];exact ⟨hx,hw⟩
  rw [List.take_add_one,hz,List.all_append,h]
  simpa using hf
theorem okP_all {to:Int} {l:List Int} {k:Nat} (h0:to < 8) (h:((l.zip widths).take k).all (fun p=>fits p.1 p.2)=true) (hk:¬k < 9):okP to l=true:=by
  unfold okP
  rw [List.take_of_length_le (by rw [List.length_zip,widths_len];omega)] at h
  rw [h,decide_eq_true h0];rfl
theorem fits_of {a b:Int} (h:¬(if fits a b=true then (0:Int) else 1)≠0):fits a b=true:=by
  cases hf:fits a b
  · rw [hf] at h;exact absurd (by decide) h
  · rfl
theorem fits_no {a b:Int} (h:(if fits a b=true then (0:Int) else 1)≠0):¬fits a b=true:=fun hf=>by
  rw [hf] at h;exact absurd rfl h
end Go.LK.Nd
namespace Go.LK
open Go
variable {H:Type} {enc:TypeId×Value→H}
theorem law_and_shaped {a:Assume} {C:Checked} {os:Os} {f:FuncId} {fn:Func} {s:ChangeSpec} {conds:List PathCond} {apart fresh handsOn again:Bool} {X:World→Array Value→Prop}
    (hX:∀ (w w':World) (args:Array Value),w.heap=w'.heap→X w args→X w' args)
    (own:ownKnob C.prog.godebug=none) (started:os.Started) (noInit:C.prog.inits.idxOf? f=none) (hfn:C.prog.funcs[f]?=some fn)
    (witness:∃ (w:World) (tape:Tape) (i:Input),w.os=os∧(w.forCall tape i).Shaped C.prog∧i.vars=[]∧Input.okWide C.prog (w.forCall tape i) .any w.heap.size f i ∧
      ((s.pre enc C.prog fn conds apart (w.forCall tape i).memory i.args∧X (w.forCall tape i).memory i.args)∧sizedMet enc C.prog fn (OpenSpec.ofChange s) apart (w.forCall tape i).memory i.args)∧a.holds C.prog (lone (Frame.enter C.prog f i.args .normal) [] (w.forCall tape i)))
    (contract:∀ (W:World) (base:Nat) (args:Array Value) (ds gs:List (DataW H)) (before:List MemPlace),
      (∀ (j:Nat) t v,fn.params[j]?=some t→args[j]?=some v→Value.okWide C.prog W .any base t v) →
      DataW.Whole enc C.prog fn.params.toList s.vars apart W args.toList ds gs before→X W args→W.ShapedOpen C.prog →
      Calls C.prog f args W fun e W'=>∃ v,e=.returned v∧s.post enc C.prog fn apart fresh handsOn again W args v W') :
    ReturnsInHanded a C os f .any (fun w args=>(s.pre enc C.prog fn conds apart w args∧X w args)∧sizedMet enc C.prog fn (OpenSpec.ofChange s) apart w args) (s.post enc C.prog fn apart fresh handsOn again):=by
  refine returnsInHanded_of_calls own started noInit witness ?_
  intro w tape i _ hsh _ hok hpre hholds
  obtain ⟨_,_,_,fn',hfn',_,_,_,_,hval⟩:=hok
  have e:fn'=fn:=Option.some.inj (hfn'.symm.trans hfn)
  subst e
  obtain ⟨⟨⟨ds,gs,before,hw,hc⟩,hx⟩,hz⟩:=hpre
  have hw':=DataW.Whole.of_heap (w':=w.forCall tape i) (by rfl) hw
  refine (contract (w.forCall tape i) w.heap.size i.args ds gs before hval hw' (hX _ _ _ (by rfl) hx) hsh).mono fun e W' ⟨v,he,hp⟩=>?_
  subst he
  exact ChangeSpec.post_blind hp
end Go.LK
