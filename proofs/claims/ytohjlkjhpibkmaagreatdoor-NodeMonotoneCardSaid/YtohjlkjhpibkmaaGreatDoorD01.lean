/-
  Rules and plain laws that the walks use.
-/
import Derived.WalkKit
import Derived.Still
import Derived.Laws.OwnMore
import Derived.Maps.AppendAt
import Derived.StillTail
import Derived.ProofKit
import Derived.Deep.Slices
import Derived.Deep.Fields
import Derived.ChangeSame
import Derived.OpenShut
set_option linter.unusedSimpArgs false
set_option linter.unusedVariables false
namespace Go.LK
theorem H.{u} {α:Sort u} {a:α}:a=a:=rfl
open Go Go.RowKit
abbrev Env:=List (Nat×Value)
def look:Env→Nat→Option Value
  | [],_=>none
  | (k,v) :: E,t=>bif Nat.beq k t then some v else look E t
theorem look_cons (k t:Nat) (v:Value) (E:Env):look ((k,v) :: E) t=if k=t then some v else look E t:=by
  simp only [look]
  by_cases h:k=t
  · subst h;simp
  · have:Nat.beq k t=false:=by
      cases hb:Nat.beq k t
      · rfl
      · exact absurd (Nat.eq_of_beq_eq_true hb) h
    simp [this,h]
structure Has (n:Nat) (a:Act) (E:Env):Prop where
  size:a.tmps.size=n
  defers:a.defers=[]
  at_:∀ t v,look E t=some v→a.tmps.getD t undef=v
def ev (E:Env):Operand→Option Value
  | .tmp t=>look E t
  | .const v=>some v
  | .global g=>some (.pointer (some ⟨g,0,none⟩))
  | .func f=>some (.func (.func f) #[] #[])
theorem Has.ev {n:Nat} {a:Act} {E:Env} {x:Operand} {v:Value} (h:Has n a E) (hx:ev E x=some v):a.eval x=v:=by
  cases x with
  | tmp t=>exact h.at_ t v hx
  | const u=>simpa [LK.ev,Act.eval] using hx
  | global g=>simpa [LK.ev,Act.eval] using hx
  | func f=>simpa [LK.ev,Act.eval] using hx
theorem Has.put {n d:Nat} {a:Act} {E:Env} (h:Has n a E) (v:Value) (hd:Nat.blt d n=true):Has n (a.put (some d) v) ((d,v) :: E):=by
  have hd':d < a.tmps.size:=by rw [h.size];exact Nat.le_of_ble_eq_true hd
  refine ⟨by simpa [Act.put] using h.size,h.defers,fun t u hu=>?_⟩
  rw [look_cons] at hu
  simp only [Act.put]
  by_cases e:d=t
  · subst e
    rw [if_pos rfl] at hu
    cases hu
    simp [Array.getD_eq_getD_getElem?,hd']
  · rw [if_neg e] at hu
    have:=h.at_ t u hu
    rw [Array.getD_eq_getD_getElem?] at this ⊢
    rw [Array.getElem?_setIfInBounds_ne e]
    exact this
def drop (d:Nat):Env→Env
  | []=>[]
  | (k,v) :: E=>bif Nat.beq k d then drop d E else (k,v) :: drop d E
def Sub:Env→Env→Prop
  | [],_=>True
  | (k,v) :: E',E=>look E k=some v∧Sub E' E
theorem Sub.look {E' E:Env} (h:Sub E' E) {t:Nat} {v:Value} (ht:look E' t=some v):look E t=some v:=by
  induction E' with
  | nil=>simp [LK.look] at ht
  | cons p E' ih =>
    obtain ⟨k,u⟩:=p
    rw [look_cons] at ht
    by_cases e:k=t
    · subst e
      rw [if_pos rfl] at ht
      cases ht
      exact h.1
    · rw [if_neg e] at ht
      exact ih h.2 ht
theorem Has.sub {n:Nat} {a:Act} {E E':Env} (h:Has n a E) (hs:Sub E' E):Has n a E' :=
  ⟨h.size,h.defers,fun t v ht=>h.at_ t v (hs.look ht)⟩
structure Sp where
  foot:List Nat
  holds:World→Prop
  lt:∀ w,holds w→∀ k∈foot,k < w.heap.size
  loc:∀ w w',(∀ k∈foot,w'.heap[k]?=w.heap[k]?)→holds w→holds w'
def feet (L:List Sp):List Nat:=L.flatMap Sp.foot
@[simp] theorem feet_nil:feet []=[]:=rfl
@[simp] theorem feet_cons (A:Sp) (L:List Sp):feet (A :: L)=A.foot++feet L:=rfl
@[simp] theorem feet_append (L L':List Sp):feet (L++L')=feet L++feet L':=by simp [feet]
def blk (g:Nat) (o:Obj):Sp where
  foot:=[g]
  holds w:=w.heap[g]?=some o
  lt w h k hk:=by
    simp only [List.mem_singleton] at hk
    subst hk
    exact (Array.getElem?_eq_some_iff.1 h).1
  loc w w' h hh:=by
    rw [h g (by simp)]
    exact hh
abbrev var (g:Nat) (cs:List Value) (t:TypeId):Sp:=blk g (.cells cs.toArray t (0,0))
def own (v:Value) (e:TypeId) (size n:Nat) (xs:List Value):Sp where
  foot:=v.ownBlock.toList
  holds w:=w.ownsRow 0 e size v n xs
  lt w h k hk:=by
    have:v.ownBlock=some k:=by simpa using hk
    exact (h.lt k this).2
  loc w w' h hh:=by
    refine ⟨hh.1,?_⟩
    rcases hh.2 with hn|⟨g,cap,cur,rfl,hb,hg,rest⟩
    · exact .inl hn
    · refine .inr ⟨g,cap,cur,rfl,hb,?_,rest⟩
      rw [h g (by simp [Value.ownBlock])]
      exact hg
structure Frame (w0:World) (M:List Nat) (w:World):Prop where
  os:w.os=w0.os
  tape:w.tape=w0.tape
  output:w.output=w0.output
  size:w0.heap.size≤w.heap.size
  old:∀ k,k < w0.heap.size→k∉M→w.heap[k]?=w0.heap[k]?
theorem Frame.refl (w:World) (M:List Nat):Frame w M w:=⟨rfl,rfl,rfl,Nat.le_refl _,fun _ _ _=>rfl⟩
theorem Frame.trans {w0 w1 w2:World} {M M':List Nat} (h:Frame w0 M w1) (h':Frame w1 M' w2) (hm:∀ k∈M',k∈M∨w0.heap.size≤k):Frame w0 M w2 :=
  ⟨h'.os.trans h.os,h'.tape.trans h.tape,h'.output.trans h.output,Nat.le_trans h.size h'.size,fun k hk hn =>
    (h'.old k (Nat.lt_of_lt_of_le hk h.size) (fun hk'=>by rcases hm k hk' with h1|h1;exact hn h1;omega)).trans (h.old k hk hn)⟩
theorem Frame.below {w0 w:World} (h:Frame w0 [] w):Below w0.heap.size w0 w:=⟨h.os,h.tape,h.output,h.size,fun k hk=>h.old k hk (by simp)⟩
def Dj (A B:Sp):Prop:=∀ k∈A.foot,k∉B.foot
theorem Dj.symm {A B:Sp} (h:Dj A B):Dj B A:=fun k hk hk'=>h k hk' hk
structure St (w0:World) (M:List Nat) (L:List Sp) (w:World):Prop where
  fr:Frame w0 M w
  at_:∀ A∈L,A.holds w
  nd:L.Pairwise Dj
  mine:∀ k∈feet L,w0.heap.size≤k∨k∈M
theorem mem_feet {L:List Sp} {k:Nat}:k∈feet L↔∃ A∈L,k∈A.foot:=List.mem_flatMap
theorem St.lt {w0 w:World} {M:List Nat} {L:List Sp} (h:St w0 M L w):∀ k∈feet L,k < w.heap.size:=by
  intro k hk
  obtain ⟨A,hA,hk⟩:=mem_feet.1 hk
  exact A.lt w (h.at_ A hA) k hk
theorem St.drew {w0 w:World} {M:List Nat} {L:List Sp} (h:St w0 M L w) (n:Nat):St w0 M L { w with drawn:=n } :=
  ⟨⟨h.fr.os,h.fr.tape,h.fr.output,h.fr.size,h.fr.old⟩,fun A hA=>A.loc w _ (fun _ _=>rfl) (h.at_ A hA),h.nd,h.mine⟩
theorem St.step {w0 w w':World} {M:List Nat} {L L' R:List Sp} (h:St w0 M (L++R) w) (hf:Frame w (feet L) w') (hL:∀ A∈L',A.holds w') (hnd:L'.Pairwise Dj)
    (hm:∀ k∈feet L',k∈feet L∨w.heap.size≤k):St w0 M (L'++R) w':=by
  have hnd0:=List.pairwise_append.1 h.nd
  have hR:∀ k∈feet R,k < w.heap.size:=fun k hk=>h.lt k (by simp [hk])
  have hdis:∀ k∈feet L,k∉feet R:=fun k hk hk'=>by
    obtain ⟨A,hA,hkA⟩:=mem_feet.1 hk
    obtain ⟨B,hB,hkB⟩:=mem_feet.1 hk'
    exact hnd0.2.2 A hA B hB k hkA hkB
  refine ⟨h.fr.trans hf fun k hk=>?_,fun A hA=>?_,?_,fun k hk=>?_⟩
  · exact (h.mine k (by simp [hk])).symm
  · rcases List.mem_append.1 hA with hA|hA
    · exact hL A hA
    · refine A.loc w w' (fun k hk=>?_) (h.at_ A (by simp [hA]))
      have hkR:k∈feet R:=mem_feet.2 ⟨A,hA,hk⟩
      exact hf.old k (hR k hkR) (fun hkL=>hdis k hkL hkR)
  · refine List.pairwise_append.2 ⟨hnd,hnd0.2.1,fun A hA B hB k hkA hkB=>?_⟩
    have hkB':k∈feet R:=mem_feet.2 ⟨B,hB,hkB⟩
    rcases hm k (mem_feet.2 ⟨A,hA,hkA⟩) with h1|h1
    · exact hdis k h1 hkB'
    · have:=hR k hkB';omega
  · rw [feet_append,List.mem_append] at hk
    rcases hk with hk|hk
    · rcases hm k hk with h1|h1
      · exact h.mine k (by simp [h1])
      · exact .inl (Nat.le_trans h.fr.size h1)
    · exact h.mine k (by simp [hk])
theorem feet_perm {L L':List Sp} (hp:L.Perm L') (k:Nat):k∈feet L↔k∈feet L':=by
  simp only [mem_feet,hp.mem_iff]
theorem St.perm {w0 w:World} {M:List Nat} {L L':List Sp} (h:St w0 M L w) (hp:L.Perm L'):St w0 M L' w :=
  ⟨h.fr,fun A hA=>h.at_ A (hp.mem_iff.2 hA),(hp.pairwise_iff (fun h=>Dj.symm h)).1 h.nd,fun k hk=>h.mine k ((feet_perm hp k).2 hk)⟩
theorem perm_eraseIdx {α:Type}:∀ (L:List α) (i:Nat) (A:α),L[i]?=some A→L.Perm (A :: L.eraseIdx i)
  | [],i,A,h=>by simp at h
  | B :: L,0,A,h=>by simp at h;subst h;simp
  | B :: L,i+1,A,h=>by
    have:=perm_eraseIdx L i A (by simpa using h)
    simp only [List.eraseIdx_cons_succ]
    exact (this.cons B).trans (List.Perm.swap A B _)
theorem perm_set {α:Type} (B:α):∀ (L:List α) (i:Nat),i < L.length→(L.set i B).Perm (B :: L.eraseIdx i)
  | [],i,h=>by simp at h
  | C :: L,0,_=>by simp
  | C :: L,i+1,h=>by
    have:=perm_set B L i (by simpa using h)
    simp only [List.set_cons_succ,List.eraseIdx_cons_succ]
    exact (this.cons C).trans (List.Perm.swap B C _)
theorem St.set {w0 w w':World} {M:List Nat} {L:List Sp} (h:St w0 M L w) {i:Nat} {A A':Sp} (hi:L[i]?=some A) (hf:Frame w A.foot w') (hA:A'.holds w')
    (hm:∀ k∈A'.foot,k∈A.foot∨w.heap.size≤k):St w0 M (L.set i A') w':=by
  obtain ⟨hlt,_⟩:=List.getElem?_eq_some_iff.1 hi
  have hp:L.Perm ([A]++L.eraseIdx i):=perm_eraseIdx L i A hi
  have h1:=(h.perm hp).step (L':=[A']) (w':=w') (by simpa [feet] using hf) (by simpa using hA) (by simp) (by simpa [feet] using hm)
  exact h1.perm (perm_set A' L i hlt).symm
theorem St.add {w0 w w':World} {M:List Nat} {L:List Sp} (h:St w0 M L w) {A':Sp} (hf:Frame w [] w') (hA:A'.holds w') (hm:∀ k∈A'.foot,w.heap.size≤k):St w0 M (A' :: L) w' :=
  St.step (L:=[]) (R:=L) (L':=[A']) h hf (by simpa using hA) (by simp) (fun k hk=>.inr (hm k (by simpa [feet] using hk)))
theorem St.quiet {w0 w w':World} {M:List Nat} {L:List Sp} (h:St w0 M L w) (hf:Frame w [] w'):St w0 M L w' :=
  St.step (L:=[]) (R:=L) (L':=[]) h hf (by simp) (by simp) (by simp)
def sel (L:List Sp) (is:List Nat):List Sp:=is.filterMap (L[·]?)
theorem St.nd' {w0 w:World} {M:List Nat} {L:List Sp} (h:St w0 M L w) {i j:Nat} {A B:Sp} (hne:i≠j) (hi:L[i]?=some A) (hj:L[j]?=some B):Dj A B:=by
  obtain ⟨hi1,rfl⟩:=List.getElem?_eq_some_iff.1 hi
  obtain ⟨hj1,rfl⟩:=List.getElem?_eq_some_iff.1 hj
  have hp:=List.pairwise_iff_getElem.1 h.nd
  rcases Nat.lt_or_gt_of_ne hne with hlt|hgt
  · exact hp i j hi1 hj1 hlt
  · exact (hp j i hj1 hi1 hgt).symm
theorem St.sel {w0 w:World} {M:List Nat} {L:List Sp} (h:St w0 M L w) {is:List Nat} (hn:is.Nodup):St w0 M (LK.sel L is) w:=by
  have hmem:∀ A∈LK.sel L is,A∈L:=fun A hA=>by
    obtain ⟨i,_,hi⟩:=List.mem_filterMap.1 hA
    exact List.mem_of_getElem? hi
  refine ⟨h.fr,fun A hA=>h.at_ A (hmem A hA),?_,fun k hk=>?_⟩
  · refine List.pairwise_filterMap.2 (hn.imp ?_)
    intro i j hne A hA B hB
    exact h.nd' hne hA hB
  · obtain ⟨A,hA,hkA⟩:=mem_feet.1 hk
    exact h.mine k (mem_feet.2 ⟨A,hmem A hA,hkA⟩)
end Go.LK
namespace Go.LK
open Go Go.RowKit
structure Cx where
  P:Program
  fn:Func
  n:Nat
  w0:World
  M:List Nat
  Ro:List Sp
  R:Ending→World→Prop
def Cx.Ok (c:Cx):Prop:=∀ A∈c.Ro,A.holds c.w0∧∀ k∈A.foot,k∉c.M
theorem Cx.ro {c:Cx} (h:c.Ok) {w:World} {L:List Sp} (s:St c.w0 c.M L w) {i:Nat} {A:Sp} (hi:c.Ro[i]?=some A):A.holds w:=by
  obtain ⟨h1,h2⟩:=h A (List.mem_of_getElem? hi)
  exact A.loc c.w0 w (fun k hk=>s.fr.old k (A.lt _ h1 k hk) (h2 k hk)) h1
inductive It where
  | code (c:Code)
  | blk (id:Nat)
  | scp
  | lp (I:Act→World→Prop)
def Qof (P:Program) (R0:Exit→Act→World→Prop):List It→Exit→Act→World→Prop
  | []=>R0
  | .code c :: k=>Exit.then (c.wp P (Qof P R0 k)) (Qof P R0 k)
  | .blk id :: k=>Exit.inBlock id (Qof P R0 k)
  | .scp :: k=>Exit.noGoto (Qof P R0 k)
  | .lp I :: k=>Exit.then I (Qof P R0 k)
abbrev Cx.Q (c:Cx) (k:List It):Exit→Act→World→Prop:=Qof c.P (bodyPost c.P c.fn c.R) k
def J (c:Cx) (k:List It) (E:Env) (L:List Sp):Prop:=c.Ok→∀ a w,Has c.n a E→St c.w0 c.M L w→c.Q k .normal a w
def O (c:Cx) (ops:Array Oper) (rest:List Oper) (k:List It) (E:Env) (L:List Sp):Prop :=
  c.Ok→∀ a w,Has c.n a E→St c.w0 c.M L w→wpList c.P ops (c.Q k) rest a w
section
variable {c:Cx} {k:List It} {E:Env} {L:List Sp}
theorem J.seq {x y:Code} (h:J c (.code x :: .code y :: k) E L):J c (.code (.seq x y) :: k) E L:=fun ok a w ha hs=>wp_seq (h ok a w ha hs)
theorem J.block {id:Nat} {x:Code} (h:J c (.code x :: .blk id :: k) E L):J c (.code (.block id x) :: k) E L:=fun ok a w ha hs=>wp_block (h ok a w ha hs)
theorem J.blk {id:Nat} (h:J c k E L):J c (.blk id :: k) E L:=fun ok a w ha hs=>h ok a w ha hs
theorem J.scope {x:Code} (h:J c (.code x :: .scp :: k) E L):J c (.code (.scope x) :: k) E L:=fun ok a w ha hs=>wp_scope_straight (h ok a w ha hs)
theorem J.scp (h:J c k E L):J c (.scp :: k) E L:=fun ok a w ha hs=>h ok a w ha hs
theorem J.skip (h:J c k E L):J c (.code .skip :: k) E L:=fun ok a w ha hs=>wp_skip (h ok a w ha hs)
theorem J.label {l:Nat} (h:J c k E L):J c (.code (.label l) :: k) E L:=fun ok a w ha hs=>wp_label (h ok a w ha hs)
def pop (id:Nat):List It→Option (List It)
  | []=>none
  | .blk i :: k=>bif Nat.beq i id then some k else pop id k
  | .code _ :: k=>pop id k
  | .scp :: k=>pop id k
  | .lp _ :: k=>pop id k
theorem Q_exit {P:Program} {R0:Exit→Act→World→Prop} {id:Nat} {a:Act} {w:World}:∀ {k k':List It},pop id k=some k'→Qof P R0 k' .normal a w→Qof P R0 k (.exit id) a w
  | [],_,h,_=>by simp [pop] at h
  | .blk i :: k,k',h,hq=>by
    simp only [pop] at h
    simp only [Qof,Exit.inBlock]
    cases hb:Nat.beq i id
    · rw [hb] at h
      have hne:i≠id:=fun e=>by subst e;simp at hb
      rw [if_neg (Ne.symm hne)]
      exact Q_exit h hq
    · rw [hb] at h
      have he:=Nat.eq_of_beq_eq_true hb
      subst he
      cases h
      rw [if_pos rfl]
      exact hq
  | .code _ :: k,k',h,hq=>Q_exit (k:=k) h hq
  | .scp :: k,k',h,hq=>Q_exit (k:=k) h hq
  | .lp _ :: k,k',h,hq=>Q_exit (k:=k) h hq
theorem Q_ret {P:Program} {R0:Exit→Act→World→Prop} {a:Act} {w:World}:∀ {k:List It},R0 .ret a w→Qof P R0 k .ret a w
  | [],h=>h
  | .blk _ :: k,h=>Q_ret (k:=k) h
  | .code _ :: k,h=>Q_ret (k:=k) h
  | .scp :: k,h=>Q_ret (k:=k) h
  | .lp _ :: k,h=>Q_ret (k:=k) h
theorem J.exit {id:Nat} (k':List It) (hp:pop id k=some k') (h:J c k' E L):J c (.code (.exit id) :: k) E L:=fun ok a w ha hs=>wp_exit (Q_exit hp (h ok a w ha hs))
theorem J.cond {x:Operand} {b:Bool} {t f:Code} (hx:ev E x=some (.bool b)) (ht:b=true→J c (.code t :: k) E L) (hf:b=false→J c (.code f :: k) E L) :
    J c (.code (.cond x t f) :: k) E L:=fun ok a w ha hs =>
  wp_cond_split (ha.ev hx) (fun e=>ht e ok a w ha hs) (fun e=>hf e ok a w ha hs)
theorem J.condT {x:Operand} {b:Bool} {t f:Code} (hx:ev E x=some (.bool b)) (hb:b=true) (ht:J c (.code t :: k) E L) :
    J c (.code (.cond x t f) :: k) E L:=fun ok a w ha hs=>wp_cond_true (by rw [ha.ev hx,hb]) (ht ok a w ha hs)
theorem J.condF {x:Operand} {b:Bool} {t f:Code} (hx:ev E x=some (.bool b)) (hb:b=false) (hf:J c (.code f :: k) E L) :
    J c (.code (.cond x t f) :: k) E L:=fun ok a w ha hs=>wp_cond_false (by rw [ha.ev hx,hb]) (hf ok a w ha hs)
theorem J.region {id:Nat} {l:List Oper} (h:O c l.toArray l k E L):J c (.code (.region id l.toArray false) :: k) E L:=fun ok a w ha hs=>wp_region_lit (h ok a w ha hs)
theorem O.nil {ops:Array Oper} (h:J c k E L):O c ops [] k E L:=fun ok a w ha hs=>h ok a w ha hs
def inv {X:Type} (c:Cx) (φ:X→Prop) (EE:X→Env) (LL:X→List Sp) (μ:X→Nat) (m:Nat) (a:Act) (w:World):Prop :=
  ∃ x,φ x∧μ x < m∧Has c.n a (EE x)∧St c.w0 c.M (LL x) w
theorem J.loop {X:Type} (φ:X→Prop) (EE:X→Env) (LL:X→List Sp) (μ:X→Nat) {x:Code} (x0:X) (h0:φ x0) (hE:Sub (EE x0) E) (is:List Nat) (hn:is.Nodup) (hL:LK.sel L is=LL x0)
    (round:∀ y,φ y→J c (.code x :: .lp (inv c φ EE LL μ (μ y)) :: k) (EE y) (LL y)):J c (.code (.loop x) :: k) E L:=fun ok a w ha hs=>by
  have hst:St c.w0 c.M (LL x0) w:=hL ▸ hs.sel hn
  have hh:=ha.sub hE
  intro b kk cs
  have key:∀ m y a w,μ y=m→φ y→Has c.n a (EE y)→St c.w0 c.M (LL y) w →
      ∃ e a' w',c.Q k e a' w'∧Arrives c.P (lone (b.at a (.code x :: .inLoop x :: kk)) cs w) b kk cs e a' w':=by
    intro m
    induction m using Nat.strongRecOn with
    | _ m ih =>
      intro y a w hm hφ ha hs
      obtain ⟨e,a₁,w₁,hq,harr⟩:=round y hφ ok a w ha hs b (.inLoop x :: kk) cs
      cases e with
      | normal =>
        obtain ⟨y',hφ',hlt,ha',hs'⟩:=hq
        obtain ⟨e₂,a₂,w₂,hq₂,harr₂⟩:=ih (μ y') (hm ▸ hlt) y' a₁ w₁ rfl hφ' ha' hs'
        exact ⟨e₂,a₂,w₂,hq₂,.of_steps (Steps.trans harr (.one step_inLoop)) harr₂⟩
      | exit id=>exact ⟨_,a₁,w₁,hq,.pass (x:=.inLoop x) rfl (fun _ _=>.inl (by simp)) harr⟩
      | goto l=>exact ⟨_,a₁,w₁,hq,.pass (x:=.inLoop x) rfl (fun _ _=>.inl (by simp)) harr⟩
      | ret=>exact ⟨_,a₁,w₁,hq,.pass (x:=.inLoop x) rfl (fun _ _=>.inl (by simp)) harr⟩
      | panic ch=>exact ⟨_,a₁,w₁,hq,.pass (x:=.inLoop x) rfl (fun _ _=>.inl (by simp)) harr⟩
      | outgrown=>exact ⟨_,a₁,w₁,hq,.pass (x:=.inLoop x) rfl (fun _ _=>.inl (by simp)) harr⟩
  obtain ⟨e,a',w',hq,harr⟩:=key _ x0 a w rfl h0 hh hst
  exact ⟨e,a',w',hq,.of_steps (.one step_loop) harr⟩
theorem J.lp {X:Type} {φ:X→Prop} {EE:X→Env} {LL:X→List Sp} {μ:X→Nat} {m:Nat} (y:X) (hφ:φ y) (hm:μ y < m) (hE:Sub (EE y) E) (is:List Nat) (hn:is.Nodup) (hL:LK.sel L is=LL y) :
    J c (.lp (inv c φ EE LL μ m) :: k) E L:=fun _ _ _ ha hs=>⟨y,hφ,hm,ha.sub hE,hL ▸ hs.sel hn⟩
def Fin (c:Cx) (E:Env) (L:List Sp):Prop:=c.Ok→∀ a w,Has c.n a E→St c.w0 c.M L w→∃ v,(results c.fn a.tmps).run c.P w=.ok v w∧c.R (.returned v) w
theorem J.ret (h:Fin c E L):J c (.code .ret :: k) E L:=fun ok a w ha hs =>
  wp_ret (Q_ret (by obtain ⟨v,h1,h2⟩:=h ok a w ha hs;exact ⟨ha.defers,v,h1,h2⟩))
theorem J.done (h:Fin c E L):J c [] E L:=fun ok a w ha hs=>by
  obtain ⟨v,h1,h2⟩:=h ok a w ha hs
  exact ⟨ha.defers,v,h1,h2⟩
def Tri (P:Program) (f:FuncId) (args:Array Value) (Ro L:List Sp) (post:Value→List Sp→Prop):Prop :=
  ∀ w,(∀ A∈Ro,A.holds w∧∀ k∈A.foot,k∉feet L)→St w (feet L) L w →
    Calls P f args w fun e w'=>∃ v L',e=.returned v∧post v L'∧St w (feet L) L' w'
abbrev endPost (w:World) (M:List Nat) (post:Value→List Sp→Prop):Ending→World→Prop:=fun e w'=>∃ v L',e=.returned v∧post v L'∧St w M L' w'
def envOf:Nat→List Value→Env
  | _,[]=>[]
  | i,v :: vs=>(i,v) :: envOf (i+1) vs
theorem look_envOf (vs:List Value):∀ (i t:Nat) (v:Value),look (envOf i vs) t=some v→i≤t∧vs[t-i]?=some v:=by
  induction vs with
  | nil=>intro i t v h;simp [envOf,look] at h
  | cons u vs ih =>
    intro i t v h
    simp only [envOf,look_cons] at h
    by_cases e:i=t
    · subst e;simp at h;subst h;simp
    · rw [if_neg e] at h
      obtain ⟨h1,h2⟩:=ih (i+1) t v h
      refine ⟨by omega,?_⟩
      rw [show t-i=(t-(i+1))+1 from by omega]
      simpa using h2
theorem Tri.enter {P:Program} {f:FuncId} {fn:Func} {body:Code} {args:List Value} {Ro L:List Sp} {post:Value→List Sp→Prop} (n:Nat) (hf:P.funcs[f]?=some fn) (hb:fn.body=some body) (hn:fn.ntmps=n) (hle:Nat.ble args.length n=true)
    (h:∀ w,J { P:=P,fn:=fn,n:=n,w0:=w,M:=feet L,Ro:=Ro,R:=endPost w (feet L) post } [.code body] (envOf 0 args) L):Tri P f args.toArray Ro L post:=by
  intro w hro hst
  refine calls_of_wp hf hb ?_
  have hle':=Nat.le_of_ble_eq_true hle
  have:=h w hro { tmps:=args.toArray++Array.replicate (fn.ntmps-args.toArray.size) undef,defers:=[] } w ⟨by simp [hn];omega,rfl,?_⟩ hst
  · exact Code.wp_mono (fun e a w q=>by cases e<;>exact q) this
  · intro t v ht
    obtain ⟨_,h2⟩:=look_envOf args 0 t v ht
    simp only [Nat.sub_zero] at h2
    obtain ⟨hlt,rfl⟩:=List.getElem?_eq_some_iff.1 h2
    simp [Array.getD_eq_getD_getElem?,Array.getElem?_append,hlt]
end
end Go.LK
namespace Go.LK
open Go Go.RowKit
def Qt (c:Cx) (E:Env) (L:List Sp) (o:Op) (ty:TypeId) (v:Value):Prop :=
  c.Ok→∀ a w,Has c.n a E→St c.w0 c.M L w→∀ d pos af g,(execOp a.eval ⟨d,o,ty,pos,af,g⟩).run c.P w=.ok (.value v) w
def Pu (c:Cx) (E:Env) (o:Op) (ty:TypeId) (v:Value):Prop :=
  ∀ a w,Has c.n a E→∀ d pos af g,(execOp a.eval ⟨d,o,ty,pos,af,g⟩).run c.P w=.ok (.value v) w
theorem Pu.qt {c:Cx} {E:Env} {L:List Sp} {o:Op} {ty:TypeId} {v:Value} (h:Pu c E o ty v):Qt c E L o ty v:=fun _ a w ha _=>h a w ha
def Lo (c:Cx) (E:Env) (L:List Sp) (o:Op) (ty:TypeId) (R:Value→List Sp→Prop):Prop :=
  c.Ok→∀ a w,Has c.n a E→St c.w0 c.M L w→∀ d pos af g (K:Act→World→Prop) (Q:Exit→Act→World→Prop),
    (∀ v L' w',R v L'→St c.w0 c.M L' w'→K (a.put d v) w')→Oper.wp c.P ⟨d,o,ty,pos,af,g⟩ a w K Q
section
variable {c:Cx} {k:List It} {E:Env} {L:List Sp} {ops:Array Oper} {rest:List Oper} {o:Op} {ty:TypeId} {d:Nat} {pos:String} {af:Array Edge} {v:Value}
theorem wp_of_run {P:Program} {o:Oper} {a:Act} {w:World} {v:Value} {K:Act→World→Prop} {Q:Exit→Act→World→Prop} (h:(execOp a.eval o).run P w=.ok (.value v) w) (hk:K (a.put o.dst v) w):o.wp P a w K Q:=by
  unfold Oper.wp;rw [h];exact hk
theorem O.q (hq:Qt c E L o ty v) (hd:Nat.blt d c.n=true) (h:O c ops rest k ((d,v) :: E) L):O c ops (⟨some d,o,ty,pos,af,none⟩ :: rest) k E L:=fun ok a w ha hs =>
  wpList_plain rfl fun _ hK=>wp_of_run (hq ok a w ha hs _ _ _ _) (hK _ _ (h ok _ w (ha.put v hd) hs))
theorem O.p (hq:Pu c E o ty v) (hd:Nat.blt d c.n=true) (h:O c ops rest k ((d,v) :: E) L):O c ops (⟨some d,o,ty,pos,af,none⟩ :: rest) k E L:=O.q hq.qt hd h
theorem O.l {R:Value→List Sp→Prop} (hl:Lo c E L o ty R) (hd:Nat.blt d c.n=true) (h:∀ v L',R v L'→O c ops rest k ((d,v) :: E) L'):O c ops (⟨some d,o,ty,pos,af,none⟩ :: rest) k E L:=fun ok a w ha hs =>
  wpList_plain rfl fun _ hK=>hl ok a w ha hs _ _ _ _ _ _ fun v L' w' hR hs'=>hK _ _ (h v L' hR ok _ w' (ha.put v hd) hs')
theorem O.l0 {R:Value→List Sp→Prop} (hl:Lo c E L o ty R) (h:∀ v L',R v L'→O c ops rest k E L'):O c ops (⟨none,o,ty,pos,af,none⟩ :: rest) k E L:=fun ok a w ha hs =>
  wpList_plain rfl fun _ hK=>hl ok a w ha hs _ _ _ _ _ _ fun v L' w' hR hs'=>hK _ _ (h v L' hR ok _ w' ha hs')
theorem wanted_yes {a:Act} {n:Nat} {o:Oper} {j t:Nat} {want:Bool} (ha:Has n a E) (hg:o.guard=some (j,want)) (hj:(ops[j]?).bind (·.dst)=some t) (ht:look E t=some (.bool want)) (hn:Nat.blt t n=true) :
    Region.wanted o (yielded ops a.tmps)=true:=by
  have h1:=ha.at_ t _ ht
  have ht':t < a.tmps.size:=by rw [ha.size];exact Nat.le_of_ble_eq_true hn
  simp only [Region.wanted,hg,yielded,hj,Option.bind_some]
  rw [Array.getD_eq_getD_getElem?,Array.getElem?_eq_getElem ht'] at h1
  rw [Array.getElem?_eq_getElem ht']
  simp only [Option.getD_some] at h1
  rw [h1]
  simp
def boolOf:Value→Option Bool
  | .bool b=>some b
  | _=>none
theorem wanted_no {a:Act} {n:Nat} {o:Oper} {j t:Nat} {want:Bool} {u:Value} (ha:Has n a E) (hg:o.guard=some (j,want)) (hj:(ops[j]?).bind (·.dst)=some t) (ht:look E t=some u) (hu:boolOf u≠some want) (hn:Nat.blt t n=true) :
    Region.wanted o (yielded ops a.tmps)=false:=by
  have h1:=ha.at_ t _ ht
  have ht':t < a.tmps.size:=by rw [ha.size];exact Nat.le_of_ble_eq_true hn
  simp only [Region.wanted,hg,yielded,hj,Option.bind_some]
  rw [Array.getD_eq_getD_getElem?,Array.getElem?_eq_getElem ht'] at h1
  rw [Array.getElem?_eq_getElem ht']
  simp only [Option.getD_some] at h1
  rw [h1]
  cases u<;>simp_all [boolOf]
theorem no_bool {b want:Bool} (h:b≠want):boolOf (.bool b)≠some want:=fun e=>h (by simpa [boolOf] using e)
section
variable {x y z:Operand} {T:TypeId}
theorem Pu.move (hx:ev E x=some v):Pu c E (.move x) ty v:=fun a w ha _ _ _ _=>by simp [execOp,ha.ev hx]
theorem Pu.assign (hx:ev E x=some v):Pu c E (.assign x) ty v:=fun a w ha _ _ _ _=>by simp [execOp,ha.ev hx]
theorem O.m {c:Cx} {k:List It} {E:Env} {L:List Sp} {ops:Array Oper} {rest:List Oper} {x:Operand} {v:Value} {ty:TypeId} {d:Nat} {pos:String} {af:Array Edge} (hx:ev E x=some v) (hd:Nat.blt d c.n=true) (h:O c ops rest k ((d,v) :: E) L):O c ops (⟨some d,.move x,ty,pos,af,none⟩ :: rest) k E L:=O.p (Pu.move hx) hd h
theorem O.a {c:Cx} {k:List It} {E:Env} {L:List Sp} {ops:Array Oper} {rest:List Oper} {x:Operand} {v:Value} {ty:TypeId} {d:Nat} {pos:String} {af:Array Edge} (hx:ev E x=some v) (hd:Nat.blt d c.n=true) (h:O c ops rest k ((d,v) :: E) L):O c ops (⟨some d,.assign x,ty,pos,af,none⟩ :: rest) k E L:=O.p (Pu.assign hx) hd h
theorem Pu.pickT {b:Bool} (hx:ev E x=some (.bool b)) (hb:b=true) (hy:ev E y=some v):Pu c E (.pick x y z) ty v:=fun a w ha _ _ _ _=>by simp [execOp,ha.ev hx,ha.ev hy,hb,asBool]
theorem Pu.pickF {b:Bool} (hx:ev E x=some (.bool b)) (hb:b=false) (hz:ev E z=some v):Pu c E (.pick x y z) ty v:=fun a w ha _ _ _ _=>by simp [execOp,ha.ev hx,ha.ev hz,hb,asBool]
theorem Pu.nilCheck {ad:Addr} (hx:ev E x=some (.pointer (some ad))):Pu c E (.nilCheck x) ty (.pointer (some ad)):=fun a w ha _ _ _ _=>by simp [execOp,ha.ev hx]
theorem Pu.not {b:Bool} (hx:ev E x=some (.bool b)):Pu c E (.unOp .not T x) ty (.bool !b):=fun a w ha _ _ _ _=>by simp [execOp,ha.ev hx,Op.unary]
theorem Pu.extract {vs:List Value} {i:Nat} (hx:ev E x=some (.tuple vs.toArray)) (hi:vs[i]?=some v):Pu c E (.extract x i) ty v:=fun a w ha _ _ _ _=>by simp [execOp,ha.ev hx,Instr.extract,hi]
theorem Has.evs {n:Nat} {a:Act} (ha:Has n a E):∀ {xs:List Operand} {vs:List Value},xs.map (LK.ev E)=vs.map some→xs.map a.eval=vs
  | [],[],_=>rfl
  | [],_ :: _,h=>by simp at h
  | _ :: _,[],h=>by simp at h
  | x :: xs,v :: vs,h=>by
    simp only [List.map_cons,List.cons.injEq] at h ⊢
    exact ⟨ha.ev h.1,ha.evs h.2⟩
theorem Pu.makeFunc {fn:Fn} {cap:List Operand} (vs:List Value) (hc:cap.map (ev E)=vs.map some):Pu c E (.makeFunc fn #[] cap.toArray) ty (.func fn #[] vs.toArray):=fun a w ha _ _ _ _=>by
  simp [execOp,Instr.makeFunc,ha.evs hc]
section
variable {kd:IntKind} {m n:Int}
theorem Pu.add (hx:ev E x=some (.int kd m)) (hy:ev E y=some (.int kd n)):Pu c E (.binOp .add T x y T) ty (.int kd (kd.wrap (m+n))):=fun a w ha _ _ _ _=>by simp [execOp,eqGuard,ha.ev hx,ha.ev hy,binOp,Op.intArith]
theorem Pu.sub (hx:ev E x=some (.int kd m)) (hy:ev E y=some (.int kd n)):Pu c E (.binOp .sub T x y T) ty (.int kd (kd.wrap (m-n))):=fun a w ha _ _ _ _=>by simp [execOp,eqGuard,ha.ev hx,ha.ev hy,binOp,Op.intArith]
theorem Pu.mul (hx:ev E x=some (.int kd m)) (hy:ev E y=some (.int kd n)):Pu c E (.binOp .mul T x y T) ty (.int kd (kd.wrap (m*n))):=fun a w ha _ _ _ _=>by simp [execOp,eqGuard,ha.ev hx,ha.ev hy,binOp,Op.intArith]
theorem Pu.lss (hx:ev E x=some (.int kd m)) (hy:ev E y=some (.int kd n)):Pu c E (.binOp .lss T x y T) ty (.bool (decide (m < n))):=fun a w ha _ _ _ _=>by simp [execOp,eqGuard,ha.ev hx,ha.ev hy,binOp,Op.intCmp]
theorem Pu.leq (hx:ev E x=some (.int kd m)) (hy:ev E y=some (.int kd n)):Pu c E (.binOp .leq T x y T) ty (.bool (decide (m≤n))):=fun a w ha _ _ _ _=>by simp [execOp,eqGuard,ha.ev hx,ha.ev hy,binOp,Op.intCmp]
theorem Pu.gtr (hx:ev E x=some (.int kd m)) (hy:ev E y=some (.int kd n)):Pu c E (.binOp .gtr T x y T) ty (.bool (decide (n < m))):=fun a w ha _ _ _ _=>by simp [execOp,eqGuard,ha.ev hx,ha.ev hy,binOp,Op.intCmp]
theorem Pu.geq (hx:ev E x=some (.int kd m)) (hy:ev E y=some (.int kd n)):Pu c E (.binOp .geq T x y T) ty (.bool (decide (n≤m))):=fun a w ha _ _ _ _=>by simp [execOp,eqGuard,ha.ev hx,ha.ev hy,binOp,Op.intCmp]
theorem Pu.eql (hx:ev E x=some (.int kd m)) (hy:ev E y=some (.int kd n)):Pu c E (.binOp .eql T x y T) ty (.bool (decide (m=n))):=fun a w ha _ _ _ _=>by simp [execOp,eqGuard,ha.ev hx,ha.ev hy,binOp,Op.intCmp];rfl
theorem Pu.neq (hx:ev E x=some (.int kd m)) (hy:ev E y=some (.int kd n)):Pu c E (.binOp .neq T x y T) ty (.bool (decide (m≠n))):=fun a w ha _ _ _ _=>by
  simp [execOp,eqGuard,ha.ev hx,ha.ev hy,binOp,Op.intCmp];rfl
end
theorem in_i64 {m:Int} (h:-9223372036854775808≤m∧m≤9223372036854775807):IntKind.i64.wrap m=m:=by rw [IntKind.wrap_i64];omega
section
variable {m n:Int}
theorem Pu.add' (hx:ev E x=some (.int .i64 m)) (hy:ev E y=some (.int .i64 n)) (h:-9223372036854775808≤m+n∧m+n≤9223372036854775807):Pu c E (.binOp .add T x y T) ty (.int .i64 (m+n)):=by
  have:=Pu.add (c:=c) (T:=T) (ty:=ty) hx hy;rwa [in_i64 h] at this
theorem Pu.sub' (hx:ev E x=some (.int .i64 m)) (hy:ev E y=some (.int .i64 n)) (h:-9223372036854775808≤m-n∧m-n≤9223372036854775807):Pu c E (.binOp .sub T x y T) ty (.int .i64 (m-n)):=by
  have:=Pu.sub (c:=c) (T:=T) (ty:=ty) hx hy;rwa [in_i64 h] at this
end
theorem Pu.fieldAddr {fs:Array Field} {f:Field} {g off i s off':Nat} (hT:∀ w,(underlying T).run c.P w=.ok (.struct fs) w) (hf:fs[i]?=some f) (hs:∀ w,(sizeOf f.type).run c.P w=.ok s w) (hs0:Nat.blt 0 s=true)
    (hx:ev E x=some (.pointer (some ⟨g,off,none⟩))) (ho:off+f.offset=off'):Pu c E (.fieldAddr T x i) ty (.pointer (some ⟨g,off',none⟩)):=fun a w ha _ _ _ _=>by
  have h0:s≠0:=fun e=>by subst e;simp [Nat.blt] at hs0
  subst ho
  have hadd:Addr.add ⟨g,off,none⟩ f.offset=⟨g,off+f.offset,none⟩:=by unfold Addr.add;split<;>simp_all
  simp [execOp,ha.ev hx,Instr.fieldAt,hT,hf,Instr.sureAddr,fieldPlace,hs,h0,hadd]
theorem Pu.indexAddr {e g off s:Nat} {len cap:Nat} {m:Int} (hT:∀ w,(underlying T).run c.P w=.ok (.slice e) w) (hs:∀ w,(sizeOf e).run c.P w=.ok s w)
    (hx:ev E x=some (.slice (some ⟨g,off,none⟩) len cap)) (hy:ev E y=some (.int .i64 m)) (h0:0≤m) (h1:m < len):Pu c E (.indexAddr T x y) ty (.pointer (some ⟨g,off+m.toNat*s,none⟩)):=fun a w ha _ _ _ _=>by
  have hadd:Addr.add ⟨g,off,none⟩ (m.toNat*s)=⟨g,off+m.toNat*s,none⟩:=by unfold Addr.add;split<;>simp_all
  simp [execOp,ha.ev hx,ha.ev hy,Instr.indexAt,asIntOf,hT,hs,h0,h1,hadd]
theorem Pu.indexAddrA {len e g off s:Nat} {m:Int} (hT:∀ w,(underlying T).run c.P w=.ok (.array len e) w) (hs:∀ w,(sizeOf e).run c.P w=.ok s w)
    (hx:ev E x=some (.pointer (some ⟨g,off,none⟩))) (hy:ev E y=some (.int .i64 m)) (h0:0≤m) (h1:m < len):Pu c E (.indexAddr T x y) ty (.pointer (some ⟨g,off+m.toNat*s,none⟩)):=fun a w ha _ _ _ _=>by
  have hadd:Addr.add ⟨g,off,none⟩ (m.toNat*s)=⟨g,off+m.toNat*s,none⟩:=by unfold Addr.add;split<;>simp_all
  simp [execOp,ha.ev hx,ha.ev hy,Instr.indexAt,Instr.sureAddr,asIntOf,hT,hs,h0,h1,hadd]
theorem Pu.len {A:Option Addr} {e n cap:Nat} (hT:∀ w,(underlying T).run c.P w=.ok (.slice e) w) (hx:ev E x=some (.slice A n cap)) :
    Pu c E (.call { callee:=.builtin .len,args:=#[x],argTypes:=#[T] }) ty (.int .i64 n):=fun a w ha _ _ _ _=>by
  simp [execOp,resolve,invoke,builtin,Builtin.len_,ha.ev hx,hT,goInt]
theorem Pu.max {m n:Int} (hx:ev E x=some (.int .i64 m)) (hy:ev E y=some (.int .i64 n)) {ts:Array TypeId} :
    Pu c E (.call { callee:=.builtin .max,args:=#[x,y],argTypes:=ts }) ty (.int .i64 (if n > m then n else m)):=fun a w ha _ _ _ _=>by
  simp [execOp,resolve,invoke,builtin,Builtin.max_,Builtin.max2,ha.ev hx,ha.ev hy]
theorem Pu.min {m n:Int} (hx:ev E x=some (.int .i64 m)) (hy:ev E y=some (.int .i64 n)) {ts:Array TypeId} :
    Pu c E (.call { callee:=.builtin .min,args:=#[x,y],argTypes:=ts }) ty (.int .i64 (if n < m then n else m)):=fun a w ha _ _ _ _=>by
  simp [execOp,resolve,invoke,builtin,Builtin.min_,Builtin.min2,ha.ev hx,ha.ev hy]
def Cut (P:Program) (T:TypeId) (cs:List Value) (off:Nat) (v:Value):Prop :=
  ((∀ w,(isAgg T).run P w=.ok false w)∧cs[off]?=some v) ∨
  (∃ s vs,(∀ w,(isAgg T).run P w=.ok true w)∧(∀ w,(sizeOf T).run P w=.ok s w)∧(cs.drop off).take s=vs∧vs.length=s∧v=.agg vs.toArray)
theorem Cut.one {P:Program} {T:TypeId} {cs:List Value} {off:Nat} {v:Value} (h:∀ w,(isAgg T).run P w=.ok false w) (hc:cs[off]?=some v):Cut P T cs off v:=.inl ⟨h,hc⟩
theorem Cut.agg {P:Program} {T:TypeId} {cs:List Value} {off s:Nat} (vs:List Value) (h:∀ w,(isAgg T).run P w=.ok true w) (hs:∀ w,(sizeOf T).run P w=.ok s w) (hc:(cs.drop off).take s=vs) (hl:vs.length=s):Cut P T cs off (.agg vs.toArray) :=
  .inr ⟨s,vs,h,hs,hc,hl,rfl⟩
theorem run_cut {P:Program} {T:TypeId} {cs:List Value} {off:Nat} {v:Value} {w:World} {g o:Nat} (hc:Cut P T cs off v) (h:∀ j u,cs[j]?=some u→w.cell? ⟨g,o+j,none⟩=some u):(loadVar T ⟨g,o+off,none⟩).run P w=.ok v w:=by
  rcases hc with ⟨h1,h2⟩|⟨s,vs,h1,h2,h3,h4,rfl⟩
  · have:=h off v h2
    simp only [loadVar,Sem.run_bind,h1,Result.andThen_ok]
    simp [load,Sem.run,this]
  · have hl:(loadCells ⟨g,o+off,none⟩ vs.length).run P w=.ok vs.toArray w:=run_loadCells_list (P:=P) w ⟨g,o+off,none⟩ vs (fun j u hj=>by
      have hadd:(⟨g,o+off,none⟩:Addr).add j=⟨g,o+(off+j),none⟩:=by unfold Addr.add;split<;>simp_all [Nat.add_assoc]
      rw [hadd]
      refine h _ _ ?_
      rw [←h3,List.getElem?_take] at hj
      split at hj
      · rwa [List.getElem?_drop] at hj
      · cases hj)
    rw [h4] at hl
    simp [loadVar,h1,h2,hl]
section
variable {x y:Operand} {T:TypeId}
theorem Qt.load (i:Nat) {g off:Nat} {cs:List Value} {t:TypeId} (hx:ev E x=some (.pointer (some ⟨g,off,none⟩))) (hi:L[i]?=some (var g cs t)) (hc:Cut c.P T cs off v):Qt c E L (.load T x) ty v:=fun _ a w ha hs _ _ _ _=>by
  have hh:w.heap[g]?=some (.cells cs.toArray t (0,0)):=hs.at_ _ (List.mem_of_getElem? hi)
  have:=run_cut (w:=w) (g:=g) (o:=0) hc (fun j u hj=>by rw [Nat.zero_add,cell_of_row w g j _ t _ hh];simpa using hj)
  rw [Nat.zero_add] at this
  simp [execOp,ha.ev hx,Instr.loadAt,Instr.sureAddr,this]
end
end
end
end Go.LK
namespace Go.LK
open Go Go.RowKit
def vblk:Value→Nat
  | .slice (some a) _ _=>a.block
  | _=>0
def voff:Value→Nat
  | .slice (some a) _ _=>a.off
  | _=>0
structure Elt (w:World) (v:Value) (s:Nat) (els:List (List Value)):Prop where
  len:∀ x∈els,x.length=s
  form:∃ A cap,v=.slice A els.length cap∧els.length≤cap∧cap≤maxLen
  addr:els≠[]→∃ cap,v=.slice (some ⟨vblk v,voff v,none⟩) els.length cap
  cells:∀ i e j u,els[i]?=some e→e[j]?=some u→w.cell? ⟨vblk v,voff v+i*s+j,none⟩=some u
theorem cell_of_block {w w':World} {b o:Nat} (h:w'.heap[b]?=w.heap[b]?):w'.cell? ⟨b,o,none⟩=w.cell? ⟨b,o,none⟩:=World.cell?_of_block h
theorem cell_lt {w:World} {b o:Nat} {u:Value} (h:w.cell? ⟨b,o,none⟩=some u):b < w.heap.size:=World.block_lt_of_cell? w ⟨b,o,none⟩ h
theorem add_at (b o j:Nat):(⟨b,o,none⟩:Addr).add j=⟨b,o+j,none⟩:=by unfold Addr.add;split<;>simp_all
def rd (v:Value) (s:Nat) (els:List (List Value)):Sp where
  foot:=if els.flatten=[] then [] else [vblk v]
  holds w:=Elt w v s els
  lt w h k hk:=by
    split at hk
    · cases hk
    · rename_i hne
      simp only [List.mem_singleton] at hk
      subst hk
      obtain ⟨e,he,hee⟩:∃ e,e∈els∧e≠[] :=
        Classical.byContradiction fun hc=>hne (List.flatten_eq_nil_iff.2 fun e he=>Classical.byContradiction fun h'=>hc ⟨e,he,h'⟩)
      obtain ⟨i,hi⟩:=List.mem_iff_getElem?.1 he
      obtain ⟨u,us,rfl⟩:=List.exists_cons_of_ne_nil hee
      exact cell_lt (h.cells i _ 0 u hi rfl)
  loc w w' h hh:=⟨hh.len,hh.form,hh.addr,fun i e j u hi hj=>by
    have hne:els.flatten≠[]:=fun hc=>by
      have:=List.flatten_eq_nil_iff.1 hc e (List.mem_of_getElem? hi)
      subst this
      simp at hj
    rw [cell_of_block (h (vblk v) (by rw [if_neg hne];simp))]
    exact hh.cells i e j u hi hj⟩
theorem flatten_at {s:Nat}:∀ {els:List (List Value)} {i:Nat} {e:List Value} {j:Nat} {u:Value},(∀ x∈els,x.length=s)→els[i]?=some e→e[j]?=some u→els.flatten[i*s+j]?=some u
  | [],i,e,j,u,_,hi,_=>by simp at hi
  | x :: els,0,e,j,u,hl,hi,hj=>by
    simp at hi;subst hi
    obtain ⟨hlt,_⟩:=List.getElem?_eq_some_iff.1 hj
    simp only [List.flatten_cons,Nat.zero_mul,Nat.zero_add]
    rw [List.getElem?_append_left hlt];exact hj
  | x :: els,i+1,e,j,u,hl,hi,hj=>by
    have hx:=hl x (by simp)
    simp only [List.flatten_cons]
    rw [List.getElem?_append_right (by rw [hx,Nat.add_mul];omega)]
    rw [hx,show (i+1)*s+j-s=i*s+j from by rw [Nat.add_mul];omega]
    exact flatten_at (fun y hy=>hl y (by simp [hy])) (by simpa using hi) hj
theorem length_flatten {s:Nat}:∀ {els:List (List Value)},(∀ x∈els,x.length=s)→els.flatten.length=els.length*s
  | [],_=>by simp
  | x :: els,hl=>by
    simp only [List.flatten_cons,List.length_append,List.length_cons]
    rw [hl x (by simp),length_flatten (fun y hy=>hl y (by simp [hy])),Nat.add_mul];omega
def row (v:Value) (t:TypeId) (s:Nat) (els:List (List Value)):Sp where
  foot:=v.ownBlock.toList
  holds w:=w.ownsRow 0 t s v els.length els.flatten∧∀ x∈els,x.length=s
  lt w h:=(own v t s els.length els.flatten).lt w h.1
  loc w w' h hh:=⟨(own v t s els.length els.flatten).loc w w' h hh.1,hh.2⟩
theorem row_elt {w:World} {v:Value} {t:TypeId} {s:Nat} {els:List (List Value)} (h:(row v t s els).holds w):Elt w v s els:=by
  obtain ⟨ho,hl⟩:=h
  rcases ho.2 with ⟨rfl,hn⟩|⟨g,cap,cur,rfl,_,hg,hnc,hcm,hcs,htake⟩
  · have:els=[]:=List.eq_nil_of_length_eq_zero hn
    subst this
    exact ⟨by simp,⟨none,0,rfl,by simp,by simp [maxLen]⟩,fun h=>absurd rfl h,fun i e j u hi=>by simp at hi⟩
  · refine ⟨hl,⟨_,cap,rfl,hnc,hcm⟩,fun _=>⟨cap,rfl⟩,fun i e j u hi hj=>?_⟩
    have h1:=flatten_at hl hi hj
    have:=ho.cells (g:=g) rfl _ u h1
    have hadd:(⟨g,0,none⟩:Addr).add (i*s+j)=⟨g,0+i*s+j,none⟩:=by unfold Addr.add;split<;>simp_all
    rw [hadd] at this
    exact this
theorem rd_foot_sub {w:World} {v:Value} {t:TypeId} {s:Nat} {els:List (List Value)} (h:(row v t s els).holds w):∀ k∈(rd v s els).foot,k∈(row v t s els).foot:=by
  intro k hk
  simp only [rd] at hk
  split at hk
  · cases hk
  · rename_i hne
    simp only [List.mem_singleton] at hk
    subst hk
    rcases h.1.2 with ⟨rfl,hn⟩|⟨g,cap,cur,rfl,_⟩
    · have:els=[]:=List.eq_nil_of_length_eq_zero hn
      subst this
      exact absurd rfl hne
    · simp [row,Value.ownBlock,vblk]
section
variable {c:Cx} {k:List It} {E:Env} {L:List Sp} {ops:Array Oper} {rest:List Oper} {ty:TypeId} {v V:Value} {x y z:Operand} {T t:TypeId} {s:Nat} {els:List (List Value)}
def Src (c:Cx) (L:List Sp) (v:Value) (s:Nat) (els:List (List Value)):Prop:=c.Ok→∀ w,St c.w0 c.M L w→Elt w v s els
theorem Src.ro (i:Nat) (hi:c.Ro[i]?=some (rd v s els)):Src c L v s els:=fun ok _ hs=>c.ro ok hs hi
theorem Src.row (i:Nat) (hi:L[i]?=some (row v t s els)):Src c L v s els:=fun _ _ hs=>row_elt (hs.at_ _ (List.mem_of_getElem? hi))
theorem Src.rd (i:Nat) (hi:L[i]?=some (LK.rd v s els)):Src c L v s els:=fun _ _ hs=>hs.at_ _ (List.mem_of_getElem? hi)
def Cel (c:Cx) (L:List Sp) (g o:Nat) (cs:List Value):Prop:=c.Ok→∀ w,St c.w0 c.M L w→∀ j u,cs[j]?=some u→w.cell? ⟨g,o+j,none⟩=some u
theorem Cel.var {g:Nat} {cs:List Value} (i:Nat) (hi:L[i]?=some (LK.var g cs t)):Cel c L g 0 cs:=fun _ w hs j u hj=>by
  have hh:w.heap[g]?=some (.cells cs.toArray t (0,0)):=hs.at_ _ (List.mem_of_getElem? hi)
  rw [Nat.zero_add,cell_of_row w g j _ t _ hh];simpa using hj
theorem Cel.roVar {g:Nat} {cs:List Value} (i:Nat) (hi:c.Ro[i]?=some (LK.var g cs t)):Cel c L g 0 cs:=fun ok w hs j u hj=>by
  have hh:w.heap[g]?=some (.cells cs.toArray t (0,0)):=c.ro ok hs hi
  rw [Nat.zero_add,cell_of_row w g j _ t _ hh];simpa using hj
theorem Cel.elt {i:Nat} {e:List Value} (hs:Src c L v s els) (hi:els[i]?=some e):Cel c L (vblk v) (voff v+i*s) e:=fun ok w hst j u hj=>(hs ok w hst).cells i e j u hi hj
theorem Qt.ld {g p o off:Nat} {cs:List Value} (hx:ev E x=some (.pointer (some ⟨g,p,none⟩))) (hc:Cel c L g o cs) (hp:p=o+off) (hu:Cut c.P T cs off v):Qt c E L (.load T x) ty v:=fun ok a w ha hs _ _ _ _=>by
  have:=run_cut (w:=w) hu (hc ok w hs)
  subst hp
  simp [execOp,ha.ev hx,Instr.loadAt,Instr.sureAddr,this]
theorem Qt.lenE {e:Nat} (hT:∀ w,(underlying T).run c.P w=.ok (.slice e) w) (hx:ev E x=some V) (hs:Src c L V s els) :
    Qt c E L (.call { callee:=.builtin .len,args:=#[x],argTypes:=#[T] }) ty (.int .i64 els.length):=fun ok a w ha hst _ _ _ _=>by
  obtain ⟨A,cap,hv,_⟩:=(hs ok w hst).form
  exact Pu.len hT (x:=x) (E:=E) (by rw [hx,hv]) a w ha _ _ _ _
theorem Qt.idx {e:Nat} {m:Int} (hT:∀ w,(underlying T).run c.P w=.ok (.slice e) w) (hz:∀ w,(sizeOf e).run c.P w=.ok s w) (hx:ev E x=some V) (hs:Src c L V s els) (hy:ev E y=some (.int .i64 m)) (h0:0≤m) (h1:m < els.length) :
    Qt c E L (.indexAddr T x y) ty (.pointer (some ⟨vblk V,voff V+m.toNat*s,none⟩)):=fun ok a w ha hst _ _ _ _=>by
  obtain ⟨cap,hv⟩:=(hs ok w hst).addr (fun hc=>by subst hc;simp at h1;omega)
  exact Pu.indexAddr hT hz (x:=x) (y:=y) (E:=E) (by rw [hx];exact congrArg some hv) hy h0 h1 a w ha _ _ _ _
theorem frame_alloc (w:World) (o:Obj):Frame w [] (w.alloc o):=⟨rfl,rfl,rfl,by simp,fun k hk _=>Below.heap_alloc w o k hk⟩
theorem St.alloc {w0 w:World} {M:List Nat} (h:St w0 M L w) (o:Obj):St w0 M (blk w.heap.size o :: L) (w.alloc o) :=
  h.add (frame_alloc w o) (heap_alloc_new w o) (by simp [blk])
theorem wp_loud {P:Program} {o:Oper} {a:Act} {w w':World} {v:Value} {K:Act→World→Prop} {Q:Exit→Act→World→Prop} (h:(execOp a.eval o).run P w=.ok (.value v) w') (hk:K (a.put o.dst v) w'):o.wp P a w K Q:=by
  unfold Oper.wp;rw [h];exact hk
theorem wp_loud0 {P:Program} {o:Oper} {a:Act} {w w':World} {K:Act→World→Prop} {Q:Exit→Act→World→Prop} (h:(execOp a.eval o).run P w=.ok .skip w') (hk:K (a.put o.dst undef) w'):o.wp P a w K Q:=by
  unfold Oper.wp;rw [h];exact hk
theorem run_newRow (P:Program) (t:TypeId) (cs:Array Value) (w:World):(newRow t cs).run P w=.ok ⟨w.heap.size,0,none⟩ (w.alloc (.cells cs t)):=by
  simp [newRow,newObj,Sem.run]
theorem Lo.alloc {u:Value} (cs:List Value) (hz:∀ w,(zeroValue T).run c.P w=.ok u w) (hc:u.cells=cs.toArray):Lo c E L (.alloc T) ty fun v L'=>∃ g,v=.pointer (some ⟨g,0,none⟩)∧L'=var g cs T :: L:=fun _ a w _ hs d pos af g K Q hK =>
  wp_loud (v:=.pointer (some ⟨w.heap.size,0,none⟩)) (w':=w.alloc (.cells cs.toArray T)) (by simp [execOp,Instr.alloc,hz,newVar,hc,run_newRow])
    (hK _ _ _ ⟨_,rfl,rfl⟩ (hs.alloc _))
theorem Lo.box {u:Value} (cs:List Value) (hx:ev E x=some u) (hc:u.cells=cs.toArray):Lo c E L (.box T x) ty fun v L'=>∃ g,v=.pointer (some ⟨g,0,none⟩)∧L'=var g cs T :: L:=fun _ a w ha hs d pos af g K Q hK =>
  wp_loud (v:=.pointer (some ⟨w.heap.size,0,none⟩)) (w':=w.alloc (.cells cs.toArray T)) (by simp [execOp,Instr.box,ha.ev hx,newVar,hc,run_newRow])
    (hK _ _ _ ⟨_,rfl,rfl⟩ (hs.alloc _))
theorem setRow_frame (w:World) (g:Nat) (cs:Array Value):Frame w [g] (w.setRow g cs) :=
  ⟨rfl,rfl,rfl,by simp [World.setRow],fun k _ hk=>setRow_other w g k cs (by simpa using hk)⟩
theorem run_store_cells {P:Program} {w:World} {g o sz:Nat} {cur:Array Value} {t T:TypeId} {u:Value} {vs:List Value} (hg:w.heap[g]?=some (.cells cur t (0,0))) (hs:∀ w,(sizeOf T).run P w=.ok sz w) (hc:u.cells=vs.toArray) (hl:vs.length=sz)
    (h1:∀ v∈vs,v.oneCell'=true) (hfit:o+sz≤cur.size) :
    (storeVar T ⟨g,o,none⟩ u).run P w=.ok () (w.setRow g (cur.toList.take o++vs++cur.toList.drop (o+vs.length)).toArray):=by
  have:=run_storeCells_at P g o t vs 0 cur w hg (by omega) h1
  simp only [Nat.add_zero] at this
  simp [storeVar,hs,hc,hl,this]
theorem Lo.store (i:Nat) {g off sz:Nat} {cs vs:List Value} {u:Value} (cs':List Value) (hx:ev E x=some (.pointer (some ⟨g,off,none⟩))) (hy:ev E y=some u) (hi:L[i]?=some (var g cs t)) (hs:∀ w,(sizeOf T).run c.P w=.ok sz w)
    (hc:u.cells=vs.toArray) (hl:vs.length=sz) (h1:(vs.all Value.oneCell')=true) (hcs:cs.take off++vs++cs.drop (off+vs.length)=cs') (hfit:Nat.ble (off+sz) cs.length=true) :
    Lo c E L (.store T x y) ty fun _ L'=>L'=L.set i (var g cs' t):=fun _ a w ha hst d pos af gd K Q hK=>by
  have hh:w.heap[g]?=some (.cells cs.toArray t (0,0)):=hst.at_ _ (List.mem_of_getElem? hi)
  have hr:=run_store_cells (P:=c.P) (o:=off) hh hs hc hl (by simpa using h1) (by simpa using Nat.le_of_ble_eq_true hfit)
  refine wp_loud0 (w':=w.setRow g cs'.toArray) (by simp [execOp,ha.ev hx,ha.ev hy,Instr.storeAt,Instr.sureAddr,hr,←hcs]) ?_
  exact hK _ _ _ rfl (hst.set hi (setRow_frame w g _) (setRow_heap w g _ _ t (0,0) hh) (fun k hk=>.inl hk))
theorem flatten_set {s:Nat}:∀ {els:List (List Value)} {i:Nat} {e e':List Value},(∀ x∈els,x.length=s)→els[i]?=some e→e'.length=s→els.flatten.take (i*s)++e'++els.flatten.drop (i*s+s)=(els.set i e').flatten
  | [],i,e,e',_,hi,_=>by simp at hi
  | x :: els,0,e,e',hl,hi,he=>by
    have hx:=hl x (by simp)
    simp only [List.flatten_cons,Nat.zero_mul,List.take_zero,List.nil_append,Nat.zero_add,List.set_cons_zero]
    rw [←hx,List.drop_left]
  | x :: els,i+1,e,e',hl,hi,he=>by
    have hx:=hl x (by simp)
    have ih:=flatten_set (s:=s) (els:=els) (i:=i) (e:=e) (e':=e') (fun y hy=>hl y (by simp [hy])) (by simpa using hi) he
    simp only [List.flatten_cons,List.set_cons_succ]
    rw [←ih,List.take_append,List.drop_append,List.take_of_length_le (by rw [hx,Nat.add_mul];omega),List.drop_of_length_le (by rw [hx,Nat.add_mul];omega),
      hx,show (i+1)*s-s=i*s from by rw [Nat.add_mul];omega,show (i+1)*s+s-s=i*s+s from by rw [Nat.add_mul];omega]
    simp [List.append_assoc]
theorem splice_split {fl e vs:List Value} {s j off:Nat} (hd:(fl.drop (j*s)).take s=e) (h:off+vs.length≤s) (_hl:j*s+s≤fl.length) :
    fl.take (j*s)++(e.take off++vs++e.drop (off+vs.length))++fl.drop (j*s+s)=fl.take (j*s+off)++vs++fl.drop (j*s+off+vs.length):=by
  have h1:fl.take (j*s+off)=fl.take (j*s)++e.take off:=by
    rw [List.take_add,←hd,List.take_take,Nat.min_eq_left (by omega)]
  have h2:fl.drop (j*s+off+vs.length)=e.drop (off+vs.length)++fl.drop (j*s+s):=by
    rw [show j*s+off+vs.length=j*s+(off+vs.length) from by omega,←List.drop_drop (i:=off+vs.length),←hd]
    rw [←List.drop_append_of_le_length (by simp;omega),←List.drop_drop (i:=s),List.take_append_drop]
  rw [h1,h2]
  simp [List.append_assoc]
theorem splice_take (cur:List Value) (N a:Nat) (vs:List Value) {fl:List Value} (h:a+vs.length≤N) (hN:N≤cur.length) (hfl:cur.take N=fl) :
    (cur.take a++vs++cur.drop (a+vs.length)).take N=fl.take a++vs++fl.drop (a+vs.length):=by
  subst hfl
  rw [List.take_append,List.take_of_length_le (by simp;omega),List.take_take,Nat.min_eq_left (by omega),List.drop_take]
  congr 2
  simp
  omega
theorem Lo.storeE (i:Nat) {g p j off sz:Nat} {e vs:List Value} {u:Value} (e':List Value) (hx:ev E x=some (.pointer (some ⟨g,p,none⟩))) (hy:ev E y=some u) (hi:L[i]?=some (row V t s els)) (hg:g=vblk V) (hp:p=voff V+j*s+off)
    (hj:els[j]?=some e) (hs:∀ w,(sizeOf T).run c.P w=.ok sz w)
    (hc:u.cells=vs.toArray) (hl:vs.length=sz) (h1:(vs.all Value.oneCell')=true) (hcs:e.take off++vs++e.drop (off+vs.length)=e') (hfit:off+sz≤s) :
    Lo c E L (.store T x y) ty fun _ L'=>L'=L.set i (row V t s (els.set j e')):=fun _ a w ha hst d pos af gd K Q hK=>by
  have hh:=hst.at_ _ (List.mem_of_getElem? hi)
  obtain ⟨ho,hlen⟩:=hh
  have hjl:j < els.length:=(List.getElem?_eq_some_iff.1 hj).1
  have hel:e.length=s:=hlen e (List.mem_of_getElem? hj)
  rcases ho.2 with ⟨rfl,hn⟩|⟨b,cap,cur,rfl,_,hb,hnc,hcm,hcz,htake⟩
  · omega
  · have hg':g=b:=hg
    subst hg'
    have hp':p=j*s+off:=by simpa [voff] using hp
    subst hp'
    have he':e'.length=s:=by rw [←hcs];simp;omega
    have hbig:(j+1)*s≤els.length*s:=Nat.mul_le_mul_right s hjl
    have hbig2:els.length*s≤cap*s:=Nat.mul_le_mul_right s hnc
    have hj1:(j+1)*s=j*s+s:=by rw [Nat.add_mul];omega
    have hr:=run_store_cells (P:=c.P) (o:=j*s+off) hb hs hc hl (by simpa using h1) (by omega)
    refine wp_loud0 (w':=w.setRow g (cur.toList.take (j*s+off)++vs++cur.toList.drop (j*s+off+vs.length)).toArray) (by simp [execOp,ha.ev hx,ha.ev hy,Instr.storeAt,Instr.sureAddr,hr]) ?_
    refine hK _ _ _ rfl (hst.set hi (by simpa [row,Value.ownBlock] using setRow_frame w g _) ?_ (fun k hk=>.inl hk))
    have hlen':∀ x∈els.set j e',x.length=s:=fun x hx=>by
      rcases List.mem_or_eq_of_mem_set hx with hx|hx
      · exact hlen x hx
      · rw [hx];exact he'
    refine ⟨⟨by rw [length_flatten hlen'],.inr ⟨g,cap,_,by simp,Nat.zero_le _,setRow_heap w g _ _ t (0,0) hb,by simpa using hnc,hcm,?_,?_⟩⟩,hlen'⟩
    · simp only [List.size_toArray,List.length_append,List.length_take,List.length_drop,Array.length_toList];omega
    · have hfl:cur.toList.take (els.length*s)=els.flatten:=htake
      have h2:=flatten_set hlen hj he'
      rw [List.length_set,←h2,←hcs]
      have hd:(els.flatten.drop (j*s)).take s=e:=by
        apply List.ext_getElem?
        intro m
        rw [List.getElem?_take]
        by_cases hm:m < s
        · obtain ⟨u',hu'⟩:∃ u',e[m]?=some u':=⟨_,List.getElem?_eq_getElem (by omega)⟩
          rw [if_pos hm,List.getElem?_drop,hu',flatten_at hlen hj hu']
        · rw [if_neg hm,List.getElem?_eq_none (by omega)]
      have hflen:els.flatten.length=els.length*s:=length_flatten hlen
      rw [splice_split (fl:=els.flatten) (s:=s) (off:=off) (vs:=vs) hd (by omega) (by omega)]
      exact splice_take cur.toList (els.length*s) (j*s+off) vs (by omega) (by simp;omega) hfl
theorem Lo.append (i:Nat) {Y:Value} {news:List (List Value)} {e:TypeId} {inf:TypeInfo} {zv:Value} {bytes:Nat} (hT:c.P.underlying T=some (.slice t)) (hinf:c.P.info? t=some inf) (hz:inf.zero=some zv) (hsz:inf.size=s) (hby:inf.bytes=bytes) (hzs:zv.cells.size=s) (hs0:0 < s)
    (hx:ev E x=some V) (hi:L[i]?=some (row V t s els)) (hy:ev E y=some Y) (hs:Src c L Y s news) (h1:∀ e∈news,e.all Value.oneCell'=true)
    (h63:els.length+news.length≤maxLen) (hb:(els.length+news.length)*bytes≤140737488355328) :
    Lo c E L (.call { callee:=.builtin .append,args:=#[x,y],argTypes:=#[T,T] }) e fun v L'=>L'=L.set i (row v t s (els++news)):=fun ok a w ha hst d pos af gd K Q hK=>by
  have hh:=hst.at_ _ (List.mem_of_getElem? hi)
  obtain ⟨ho,hlen⟩:=hh
  have hE:=hs ok w hst
  have hfn:=length_flatten hE.len
  have hlen':∀ x∈els++news,x.length=s:=fun x hx=>by
    rcases List.mem_append.1 hx with hx|hx
    · exact hlen x hx
    · exact hE.len x hx
  obtain ⟨A,cap,hv,_⟩:=hE.form
  rcases A with _|ad
  · have hn:news=[]:=Classical.byContradiction fun hn=>by
      obtain ⟨cap',hv'⟩:=hE.addr hn
      rw [hv] at hv';cases hv'
    subst hn
    have hrun:(Builtin.append_ #[T,T] e #[V,.slice none 0 cap]).run c.P w=.ok V w:=by
      clear hK hst hs hE hv
      generalize els.length=n at *
      rcases ho.2 with ⟨rfl,rfl⟩|⟨g,cap',cur,rfl,_,_,hnc,_⟩
      · simp [Builtin.append_,run_underlying hT,sizeOf,typeInfo,hinf,Builtin.lenOf,Builtin.firstCells]
      · simp [Builtin.append_,run_underlying hT,sizeOf,typeInfo,hinf,Builtin.lenOf,Builtin.firstCells,hnc,storeCells]
    refine wp_loud (v:=V) (w':=w) ?_ (hK _ _ _ rfl ?_)
    · have hy':a.eval y=.slice none 0 cap:=by rw [ha.ev hy,hv];rfl
      simp [execOp,resolve,invoke,builtin,ha.ev hx,hy',hrun]
    · exact hst.set hi (Frame.refl w _) (by rw [List.append_nil];exact ⟨ho,hlen⟩) (fun k hk=>.inl hk)
  · have hcells:∀ j u,news.flatten[j]?=some u→w.cell? (ad.add j)=some u:=fun j u hu=>by
      have hn:news≠[]:=fun hn=>by subst hn;simp at hu
      obtain ⟨cap',hv'⟩:=hE.addr hn
      have had:ad=⟨vblk Y,voff Y,none⟩:=by
        have h0:=hv.symm.trans hv'
        injection h0 with h0
        injection h0
      have hj:j < news.length*s:=by rw [←hfn];exact (List.getElem?_eq_some_iff.1 hu).1
      have hdm:j / s < news.length:=Nat.div_lt_of_lt_mul (by rw [Nat.mul_comm];exact hj)
      have hm:j%s < s:=Nat.mod_lt _ hs0
      have hjj:j / s*s+j%s=j:=by rw [Nat.mul_comm];exact Nat.div_add_mod j s
      obtain ⟨e',he'⟩:∃ e',news[j / s]?=some e':=⟨_,List.getElem?_eq_getElem hdm⟩
      have hle:=hE.len e' (List.mem_of_getElem? he')
      obtain ⟨u',hu'⟩:∃ u',e'[j%s]?=some u':=⟨_,List.getElem?_eq_getElem (by omega)⟩
      have h2:=flatten_at hE.len he' hu'
      rw [hjj,hu] at h2
      cases h2
      have h3:=hE.cells _ _ _ _ he' hu'
      rw [Nat.add_assoc,hjj] at h3
      rw [had,add_at];exact h3
    have h1':∀ u∈news.flatten,u.oneCell'=true:=fun u hu=>by
      obtain ⟨e',he',hu'⟩:=List.mem_flatten.1 hu
      exact List.all_eq_true.1 (h1 e' he') u hu'
    obtain ⟨v',w',hr,h2,h3,h4,h5⟩:=run_append_own_at (P:=c.P) w 0 T e t inf zv s bytes hT hinf hz hsz hby hzs hs0 V els.length els.flatten ho ad news.length cap news.flatten hfn hcells h1' h63 hb (Nat.zero_le _)
    refine wp_loud (v:=v') (w':=w') ?_ (hK _ _ _ rfl ?_)
    · have hy':a.eval y=.slice (some ad) news.length cap:=by rw [ha.ev hy];exact hv
      simp [execOp,resolve,invoke,builtin,ha.ev hx,hy',hr]
    · refine hst.set hi ⟨h3.os,h3.tape,h3.output,h3.size,fun k hk hn=>h3.block k hk (fun e=>hn (by simp [row,←e]))⟩ ⟨by simpa using h2,hlen'⟩ (fun k hk=>?_)
      have hk':v'.ownBlock=some k:=by simpa [row] using hk
      rcases h5 with h5|h5
      · exact .inl (by simp [row,←h5,hk'])
      · rw [hk'] at h5;cases h5;exact .inr (Nat.le_refl _)
theorem O.nilRow (t:TypeId) (s:Nat) (h:O c ops rest k E (row (.slice none 0 0) t s [] :: L)):O c ops rest k E L:=fun ok a w ha hs =>
  h ok a w ha (hs.add (Frame.refl w _) ⟨World.ownsRow_nil w 0 t s,by simp⟩ (by simp [row,Value.ownBlock]))
theorem J.nilRow (t:TypeId) (s:Nat) (h:J c k E (row (.slice none 0 0) t s [] :: L)):J c k E L:=fun ok a w ha hs =>
  h ok a w ha (hs.add (Frame.refl w _) ⟨World.ownsRow_nil w 0 t s,by simp⟩ (by simp [row,Value.ownBlock]))
theorem Lo.buildSlice {n:Nat} {parts:List (Nat×Operand)} (vs:List (Nat×Value)) (els:List (List Value)) {zv:Value} (hT:∀ w,(underlying T).run c.P w=.ok (.slice t) w) (hs:∀ w,(sizeOf t).run c.P w=.ok s w) (hz:∀ w,(zeroValue t).run c.P w=.ok zv w)
    (hp:parts.map (fun p=>(p.1,ev E p.2))=vs.map (fun p=>(p.1,some p.2))) (hn:Nat.ble (n*s) 16777216=true) (hn0:Nat.blt 0 (n*s)=true)
    (hf:Instr.fill (fun i=>some (i*s,s)) ((Array.range (n*s)).map (zv.cells[·%zv.cells.size]!)) vs=some els.flatten.toArray) (hl:els.length=n) (hle:(els.all (fun e=>e.length == s))=true) :
    Lo c E L (.buildSlice T n parts.toArray) ty fun v L'=>L'=row v t s els :: L:=fun _ a w ha hst d pos af g K Q hK=>by
  have hparts:parts.map (fun p=>(p.1,a.eval p.2))=vs:=by
    clear hf
    induction parts generalizing vs with
    | nil=>cases vs<;>simp_all
    | cons p parts ih =>
      cases vs with
      | nil=>simp at hp
      | cons q vs =>
        simp only [List.map_cons,List.cons.injEq,Prod.mk.injEq] at hp ⊢
        obtain ⟨⟨h1,h2⟩,h3⟩:=hp
        refine ⟨?_,ih vs h3⟩
        rw [ha.ev h2,h1]
  have h24:¬(n*s > 2 ^ 24):=by have:=Nat.le_of_ble_eq_true hn;omega
  have hne:n*s≠0:=by have:=Nat.le_of_ble_eq_true hn0;omega
  have hle':∀ x∈els,x.length=s:=by simpa using hle
  refine wp_loud (v:=.slice (some ⟨w.heap.size,0,none⟩) n n) (w':=w.alloc (.cells els.flatten.toArray t)) ?_ (hK _ _ _ rfl (hst.add (frame_alloc w _) ⟨?_,hle'⟩ (by simp [row,Value.ownBlock])))
  · simp only [execOp,List.map_toArray]
    simp [Instr.buildSlice,hT,hs,hz,hparts,h24,hne,hf,run_newRow]
  · refine ⟨length_flatten hle',.inr ⟨w.heap.size,n,_,by rw [hl],Nat.zero_le _,heap_alloc_new w _,by omega,?_,by simp [length_flatten hle',hl],?_⟩⟩
    · have:=Nat.le_of_ble_eq_true hn
      have hs0:0 < s:=Nat.pos_of_ne_zero fun e=>hne (by rw [e];simp)
      have:=Nat.le_mul_of_pos_right n hs0
      unfold maxLen;omega
    · rw [List.take_of_length_le (by simp [length_flatten hle'])]
theorem Pu.build {parts:List (Nat×Operand)} {fs:Array Field} (vs:List (Nat×Value)) (cs:List Value) {zv:Value} (places:Array (Nat×Nat)) (hT:∀ w,(underlying T).run c.P w=.ok (.struct fs) w) (hz:∀ w,(zeroValue T).run c.P w=.ok zv w)
    (hpl:∀ w,(fs.mapM (m:=Sem) fun f=>Prod.mk f.offset <$> sizeOf f.type).run c.P w=.ok places w) (hp:parts.map (fun p=>(p.1,ev E p.2))=vs.map (fun p=>(p.1,some p.2)))
    (hf:Instr.fill (places[·]?) zv.cells vs=some cs.toArray):Pu c E (.build T parts.toArray) ty (.agg cs.toArray):=fun a w ha _ _ _ _=>by
  have hparts:parts.map (fun p=>(p.1,a.eval p.2))=vs:=by
    clear hf
    induction parts generalizing vs with
    | nil=>cases vs<;>simp_all
    | cons p parts ih =>
      cases vs with
      | nil=>simp at hp
      | cons q vs =>
        simp only [List.map_cons,List.cons.injEq,Prod.mk.injEq] at hp ⊢
        obtain ⟨⟨h1,h2⟩,h3⟩:=hp
        refine ⟨?_,ih vs h3⟩
        rw [ha.ev h2,h1]
  simp only [execOp,List.map_toArray]
  have hpl':=hpl w
  simp [Instr.build,hT,hz,hparts]
  simp [hpl',hf]
def RoOk (c:Cx) (L LC RoC:List Sp):Prop:=c.Ok→∀ w,St c.w0 c.M L w→∀ A∈RoC,A.holds w∧∀ k∈A.foot,k∉feet LC
theorem RoOk.nil {LC:List Sp}:RoOk c L LC []:=fun _ _ _ A hA=>by simp at hA
theorem RoOk.ro {LC RoC:List Sp} {A:Sp} (i:Nat) (hi:c.Ro[i]?=some A) (is:List Nat) (hL:LK.sel L is=LC) (h:RoOk c L LC RoC):RoOk c L LC (A :: RoC):=fun ok w hs B hB=>by
  rcases List.mem_cons.1 hB with rfl|hB
  · refine ⟨c.ro ok hs hi,fun k hk hk'=>?_⟩
    obtain ⟨h1,h2⟩:=ok B (List.mem_of_getElem? hi)
    have hkL:k∈feet L:=by
      rw [←hL] at hk'
      obtain ⟨C,hC,hkC⟩:=mem_feet.1 hk'
      obtain ⟨j,_,hj⟩:=List.mem_filterMap.1 hC
      exact mem_feet.2 ⟨C,List.mem_of_getElem? hj,hkC⟩
    rcases hs.mine k hkL with h3|h3
    · have:=B.lt _ h1 k hk;omega
    · exact h2 k hk h3
  · exact h ok w hs B hB
theorem RoOk.of {LC RoC:List Sp} {A B:Sp} (j:Nat) (hj:L[j]?=some B) (hAB:∀ w,B.holds w→A.holds w∧∀ k∈A.foot,k∈B.foot) (is:List Nat) (hn:j∉is) (hL:LK.sel L is=LC) (h:RoOk c L LC RoC):RoOk c L LC (A :: RoC):=fun ok w hs C hC=>by
  rcases List.mem_cons.1 hC with rfl|hC
  · obtain ⟨h1,h2⟩:=hAB w (hs.at_ _ (List.mem_of_getElem? hj))
    refine ⟨h1,fun k hk hk'=>?_⟩
    rw [←hL] at hk'
    obtain ⟨D,hD,hkD⟩:=mem_feet.1 hk'
    obtain ⟨i,hi,hi'⟩:=List.mem_filterMap.1 hD
    have hne:j≠i:=fun e=>hn (by rw [e];exact hi)
    exact hs.nd' hne hj hi' k (h2 k hk) hkD
  · exact h ok w hs C hC
theorem RoOk.sub {LC RoC:List Sp} (h:∀ A∈RoC,A∈c.Ro) (is:List Nat) (hL:LK.sel L is=LC):RoOk c L LC RoC:=fun ok w hs A hA=>by
  obtain ⟨i,hi⟩:=List.mem_iff_getElem?.1 (h A hA)
  exact RoOk.ro (RoC:=[]) i hi is hL RoOk.nil ok w hs A (by simp)
theorem row_rd {v:Value} {t:TypeId} {s:Nat} {els:List (List Value)}:∀ w,(row v t s els).holds w→(rd v s els).holds w∧∀ k∈(rd v s els).foot,k∈(row v t s els).foot:=fun _ h=>⟨row_elt h,rd_foot_sub h⟩
theorem same_rd {A:Sp}:∀ w,A.holds w→A.holds w∧∀ k∈A.foot,k∈A.foot:=fun _ h=>⟨h,fun _ hk=>hk⟩
theorem Lo.callV {f:FuncId} {xs:List Operand} {ts:Array TypeId} {vs caps:List Value} {RoC LC:List Sp} {post:Value→List Sp→Prop} (hcall:∀ args w,(callFunc f args).run c.P w=.ok (.enter f args) w) (hx:ev E x=some (.func (.func f) #[] caps.toArray))
    (hxs:xs.map (ev E)=vs.map some) (ht:Tri c.P f (vs++caps).toArray RoC LC post) (is js:List Nat) (hn:(is++js).Nodup) (hL:LK.sel L is=LC) (R:List Sp) (hR:LK.sel L js=R) (hro:RoOk c L LC RoC) :
    Lo c E L (.call { callee:=.value x,args:=xs.toArray,argTypes:=ts }) ty fun v L'=>∃ Lp,post v Lp∧L'=Lp++R:=fun ok a w ha hst d pos af g K Q hK=>by
  have hsel:St c.w0 c.M (LC++R) w:=by
    have:=hst.sel hn
    rwa [show LK.sel L (is++js)=LC++R from by rw [←hL,←hR];simp [LK.sel]] at this
  have hpw:=List.pairwise_append.1 hsel.nd
  have hC:St w (feet LC) LC w:=⟨Frame.refl w _,fun A hA=>hsel.at_ A (by simp [hA]),hpw.1,fun k hk=>.inr hk⟩
  have hcalls:=ht w (hro ok w hst) hC
  have hexec:(execOp a.eval ⟨d,.call { callee:=.value x,args:=xs.toArray,argTypes:=ts },ty,pos,af,g⟩).run c.P w=.ok (.enter f (vs++caps).toArray) w:=by
    have h1:xs.map a.eval=vs:=ha.evs hxs
    simp [execOp,resolve,Deferred.ofValue,invoke,ha.ev hx,h1,hcall]
  unfold Oper.wp
  rw [hexec]
  refine Calls.mono hcalls ?_
  rintro e w' ⟨v,Lp,rfl,hp,hs'⟩
  exact hK v _ w' ⟨Lp,hp,rfl⟩ (hsel.step hs'.fr hs'.at_ hs'.nd (fun k hk=>(hs'.mine k hk).symm))
theorem Lo.call {f:FuncId} {xs:List Operand} {ts:Array TypeId} (vs:List Value) {RoC LC:List Sp} {post:Value→List Sp→Prop} (hcall:∀ args w,(callFunc f args).run c.P w=.ok (.enter f args) w)
    (hxs:xs.map (ev E)=vs.map some) (ht:Tri c.P f vs.toArray RoC LC post) (is js:List Nat) (hn:(is++js).Nodup) (hL:LK.sel L is=LC) (R:List Sp) (hR:LK.sel L js=R) (hro:RoOk c L LC RoC) :
    Lo c E L (.call { callee:=.value (.func f),args:=xs.toArray,argTypes:=ts }) ty fun v L'=>∃ Lp,post v Lp∧L'=Lp++R :=
  Lo.callV (caps:=[]) (x:=.func f) hcall rfl hxs (by simpa using ht) is js hn hL R hR hro
def RV (c:Cx) (E:Env) (L:List Sp):ResultVar→Value→Prop
  | .tmp t,v=>look E t=some v
  | .cell t T,v=>∃ g p o off cs,look E t=some (.pointer (some ⟨g,p,none⟩))∧Cel c L g o cs∧p=o+off∧Cut c.P T cs off v
def RVs (c:Cx) (E:Env) (L:List Sp):List ResultVar→List Value→Prop
  | [],[]=>True
  | r :: rs,v :: vs=>RV c E L r v∧RVs c E L rs vs
  | _,_=>False
def resOf (a:Act):ResultVar→Sem Value
  | .tmp t=>pure (a.tmps.getD t undef)
  | .cell b t=>do loadVar t (← asAddr (a.tmps.getD b undef))
theorem run_results {a:Act} {w:World} (ok:c.Ok) (ha:Has c.n a E) (hs:St c.w0 c.M L w):∀ {rs:List ResultVar} {vs:List Value},RVs c E L rs vs→(rs.mapM (resOf a)).run c.P w=.ok vs w
  | [],[],_=>by simp
  | [],_ :: _,h=>h.elim
  | _ :: _,[],h=>h.elim
  | .tmp t :: rs,v :: vs,h=>by
    have ih:=run_results ok ha hs h.2
    have h1:=ha.at_ t v h.1
    simp only [List.mapM_cons,Sem.run_bind,Sem.run_pure,Result.andThen_ok,ih,h1,resOf]
  | .cell t T :: rs,v :: vs,h=>by
    have ih:=run_results ok ha hs h.2
    obtain ⟨g,p,o,off,cs,h1,h2,rfl,h3⟩:=h.1
    have h1':=ha.at_ t _ h1
    have h4:=run_cut (w:=w) h3 (h2 ok w hs)
    simp only [List.mapM_cons,Sem.run_bind,Sem.run_pure,Result.andThen_ok,ih,h1',resOf,asAddr,h4]
def vOf:List Value→Value
  | [v]=>v
  | vs=>.tuple vs.toArray
theorem Fin.mk {rs:List ResultVar} (hr:c.fn.results=rs.toArray) (vs:List Value) (hv:RVs c E L rs vs) (is:List Nat) (hn:is.Nodup) (L':List Sp) (hL:LK.sel L is=L') (h:∀ w,St c.w0 c.M L' w→c.R (.returned (vOf vs)) w):Fin c E L:=fun ok a w ha hs=>by
  refine ⟨vOf vs,?_,h w (hL ▸ hs.sel hn)⟩
  have h1:=run_results ok ha hs hv
  have h2:results c.fn a.tmps=(do let vs ← c.fn.results.mapM (resOf a);pure (if h:vs.size=1 then vs[0] else .tuple vs)):=rfl
  rw [h2,hr,List.mapM_toArray]
  simp only [map_eq_pure_bind,Sem.run_bind,h1,Result.andThen_ok,Sem.run_pure]
  match vs with
  | []=>rfl
  | [v]=>rfl
  | v :: u :: vs=>simp [vOf]
end
end Go.LK
namespace Go.LK
open Go Go.RowKit
section
variable {c:Cx} {k:List It} {E:Env} {L:List Sp} {ops:Array Oper} {rest:List Oper} {o:Op} {ty:TypeId} {d:Nat} {pos:String} {af:Array Edge} {v:Value}
theorem St.drew' {w0 w:World} {M:List Nat} (h:St w0 M L w):St w0 M L { w with drawn:=w.drawn+1 }:=h.drew _
def S (c:Cx) (ops:Array Oper) (T:World→Act→Prop) (rest:List Oper) (E:Env) (L:List Sp):Prop:=c.Ok→∀ a w,Has c.n a E→St c.w0 c.M L w→wpStill c.P ops w (T w) rest a
section
variable {T:World→Act→Prop}
theorem still_of_run {P:Program} {o:Oper} {a:Act} {w:World} {v:Value} {K:Act→Prop} (h:(execOp a.eval o).run P w=.ok (.value v) w) (hk:K (a.put o.dst v)):o.still P a w K:=by
  unfold Oper.still;rw [h];exact ⟨rfl,hk⟩
theorem S.q (hq:Qt c E L o ty v) (hd:Nat.blt d c.n=true) (h:S c ops T rest ((d,v) :: E) L):S c ops T (⟨some d,o,ty,pos,af,none⟩ :: rest) E L:=fun ok a w ha hs =>
  wpStill_step fun _ hK=>by
    rw [if_pos (by simp [Region.wanted])]
    exact still_of_run (hq ok a w ha hs _ _ _ _) (hK _ (h ok _ w (ha.put v hd) hs))
theorem S.p (hq:Pu c E o ty v) (hd:Nat.blt d c.n=true) (h:S c ops T rest ((d,v) :: E) L):S c ops T (⟨some d,o,ty,pos,af,none⟩ :: rest) E L:=S.q hq.qt hd h
theorem S.m {x:Operand} (hx:ev E x=some v) (hd:Nat.blt d c.n=true) (h:S c ops T rest ((d,v) :: E) L):S c ops T (⟨some d,.move x,ty,pos,af,none⟩ :: rest) E L:=S.p (Pu.move hx) hd h
end
theorem S.endO {tail:List Oper} (h:O c ops tail k E L):S c ops (fun w a=>wpList c.P ops (c.Q k) tail a w) [] E L:=fun ok a w ha hs=>wpStill_nil (h ok a w ha hs)
theorem S.endJ (h:J c k E L):S c ops (fun w a=>c.Q k .normal a w) [] E L:=fun ok a w ha hs=>wpStill_nil (h ok a w ha hs)
theorem J.drawTail {id:Nat} {l:List Oper} (n:Nat) (hm:c.P.follows .mixedOrders=true) (hB:Region.lexTailB .any l.toArray n=true) (h:S c l.toArray (fun w a=>wpList c.P l.toArray (c.Q k) (l.drop n) a w) (l.take n) E L) :
    J c (.code (.region id l.toArray true) :: k) E L:=fun ok a w ha hs=>wp_region_still_tail n hm hB (h ok a _ ha hs.drew')
theorem J.drawStill {id:Nat} {l:List Oper} (hm:c.P.follows .mixedOrders=true) (hB:Region.lexB .any l.toArray=true) (h:S c l.toArray (fun w a=>c.Q k .normal a w) l E L) :
    J c (.code (.region id l.toArray true) :: k) E L:=fun ok a w ha hs=>wp_region_still hm hB (by simpa using h ok a _ ha hs.drew')
def D (c:Cx) (ops:Array Oper) (m:Nat) (listed:Array Bool) (k:List It) (E:Env) (L:List Sp):Prop:=c.Ok→∀ a w,Has c.n a E→St c.w0 c.M L w→wpAny c.P .any ops (c.Q k) m listed a w
def W (c:Cx) (ops:Array Oper) (i m:Nat) (listed:Array Bool) (k:List It) (E:Env) (L:List Sp):Prop:=c.Ok→∀ a w,Has c.n a E→St c.w0 c.M L w→wpOp c.P ops (c.Q k) i (wpAny c.P .any ops (c.Q k) m (listed.setIfInBounds i true)) a w
def Wall (c:Cx) (ops:Array Oper) (m:Nat) (listed:Array Bool) (k:List It) (E:Env) (L:List Sp):List Nat→Prop
  | []=>True
  | i :: rs=>W c ops i m listed k E L∧Wall c ops m listed k E L rs
theorem J.draw {id:Nat} {l:List Oper} (hm:c.P.follows .mixedOrders=true) (listed:Array Bool) (hl:Array.replicate l.length false=listed) (h:D c l.toArray l.length listed k E L):J c (.code (.region id l.toArray true) :: k) E L:=fun ok a w ha hs =>
  wp_region_any hm (by simpa [hl] using h ok a _ ha hs.drew')
theorem Wall.mem {m:Nat} {listed:Array Bool}:∀ {rs:List Nat},Wall c ops m listed k E L rs→∀ i∈rs,W c ops i m listed k E L
  | [],_,i,hi=>by simp at hi
  | j :: rs,h,i,hi=>by
    rcases List.mem_cons.1 hi with rfl|hi
    · exact h.1
    · exact h.2.mem i hi
theorem D.all {m:Nat} {listed:Array Bool} (i:Nat) (rs:List Nat) (hr:Region.ready .any ops listed=i :: rs) (h:Wall c ops m listed k E L (i :: rs)):D c ops (m+1) listed k E L:=fun ok a w ha hs =>
  wpAny_all hr (by simp) fun j hj=>h.mem j hj ok a w ha hs
theorem D.done {m:Nat} {listed:Array Bool} (hr:Region.ready .any ops listed=[]) (h:J c k E L):D c ops m listed k E L:=fun ok a w ha hs=>wpAny_done hr (h ok a w ha hs) m
theorem Q_panic {P:Program} {R0:Exit→Act→World→Prop} {ch:List PanicEntry} {a:Act} {w:World}:∀ {k:List It},Qof P R0 k (.panic ch) a w=R0 (.panic ch) a w
  | []=>rfl
  | .blk _ :: k=>Q_panic (k:=k)
  | .code _ :: k=>Q_panic (k:=k)
  | .scp :: k=>Q_panic (k:=k)
  | .lp _ :: k=>Q_panic (k:=k)
theorem D.take {m:Nat} {listed listed':Array Bool} (i:Nat) (hi:ops[i]?=some ⟨some d,o,ty,pos,af,none⟩) (hs:Region.noSelect ops=true) (hf:Region.free .any ops listed i=true) (hr:(Region.ready .any ops listed).contains i=true)
    (hl:listed.setIfInBounds i true=listed') (hq:Pu c E o ty v) (hd:Nat.blt d c.n=true) (h:D c ops m listed' k ((d,v) :: E) L):D c ops (m+1) listed k E L:=fun ok a w ha hst =>
  wpAny_take hi hs hf hr (fun ch a _ hp=>by rw [Cx.Q,Q_panic] at hp ⊢;exact hp) (.inl ⟨by simp [Region.wanted],fun w=>hq a w ha _ _ _ _⟩) (hl ▸ h ok _ w (ha.put v hd) hst)
theorem W.q {i m:Nat} {listed listed':Array Bool} (hi:ops[i]?=some ⟨some d,o,ty,pos,af,none⟩) (hl:listed.setIfInBounds i true=listed') (hq:Qt c E L o ty v) (hd:Nat.blt d c.n=true) (h:D c ops m listed' k ((d,v) :: E) L):W c ops i m listed k E L:=fun ok a w ha hs=>by
  unfold wpOp
  simp only [hi]
  rw [if_pos (by simp [Region.wanted])]
  exact .inl (wp_of_run (hq ok a w ha hs _ _ _ _) (hl ▸ h ok _ w (ha.put v hd) hs))
theorem W.l {i m:Nat} {listed listed':Array Bool} {R:Value→List Sp→Prop} (hi:ops[i]?=some ⟨some d,o,ty,pos,af,none⟩) (hl:listed.setIfInBounds i true=listed') (hq:Lo c E L o ty R) (hd:Nat.blt d c.n=true) (h:∀ v L',R v L'→D c ops m listed' k ((d,v) :: E) L'):W c ops i m listed k E L:=fun ok a w ha hs=>by
  unfold wpOp
  simp only [hi]
  rw [if_pos (by simp [Region.wanted])]
  exact .inl (hq ok a w ha hs _ _ _ _ _ _ fun v L' w' hR hs'=>hl ▸ h v L' hR ok _ w' (ha.put v hd) hs')
theorem J.cut {X:Type} (φ:X→Prop) (EE:X→Env) (LL:X→List Sp) {x:Code} (h:J c (.code x :: .lp (inv c φ EE LL (fun _=>0) 1) :: k) E L) (h':∀ y,φ y→J c k (EE y) (LL y)):J c (.code x :: k) E L:=fun ok a w ha hs=>by
  refine Code.wp_mono (fun e a w q=>?_) (h ok a w ha hs)
  cases e with
  | normal =>
    obtain ⟨y,hφ,_,ha',hs'⟩:=q
    exact h' y hφ ok a w ha' hs'
  | _=>exact q
end
end Go.LK
namespace Go.LK
open Go Go.RowKit
theorem one_cells {v:Value} (h:v.oneCell'=true):v.cells=[v].toArray:=by cases v<;>simp_all [Value.oneCell',Value.cells]
theorem one_all {v:Value} (h:v.oneCell'=true):[v].all Value.oneCell'=true:=by simp [h]
theorem elt_one {w:World} {v:Value} {s:Nat} {els:List (List Value)} (h:Elt w v s els):v.oneCell'=true:=by
  obtain ⟨A,cap,rfl,_⟩:=h.form
  rfl
theorem none_step {α:Type} {p:α→Bool} {l:List α} {k:Nat} {e:α} (hn:∀ j x,j < k→l[j]?=some x→p x=false) (he:l[k]?=some e) (hp:p e=false):∀ j x,j < k+1→l[j]?=some x→p x=false:=by
  intro j x hj hx
  by_cases h:j=k
  · subst h;rw [he] at hx;cases hx;exact hp
  · exact hn j x (by omega) hx
theorem not_flip {b r:Bool} (h:(!b)=r):b=!r:=by cases b<;>cases r<;>simp_all
theorem not_of_true {b:Bool} (h:b=true):(!b)=false:=by rw [h];rfl
theorem not_of_false {b:Bool} (h:b=false):(!b)=true:=by rw [h];rfl
theorem by_bool {p:Prop} (b:Bool) (h1:b=true→p) (h2:b=false→p):p:=by cases b;exact h2 rfl;exact h1 rfl
section
variable {c:Cx} {k:List It} {E:Env} {L:List Sp} {ops:Array Oper} {rest:List Oper} {ty:TypeId} {v V:Value} {x y z:Operand} {T t:TypeId} {s:Nat}
variable {α:Type} {f:α→List Value} {l:List α}
theorem J.one {els:List (List Value)} (hs:Src c L V s els) (h:V.oneCell'=true→J c k E L):J c k E L:=fun ok a w ha hst=>h (elt_one (hs ok w hst)) ok a w ha hst
theorem O.one {els:List (List Value)} (hs:Src c L V s els) (h:V.oneCell'=true→O c ops rest k E L):O c ops rest k E L:=fun ok a w ha hst=>h (elt_one (hs ok w hst)) ok a w ha hst
theorem Qt.lenM {e:Nat} (hT:∀ w,(underlying T).run c.P w=.ok (.slice e) w) (hx:ev E x=some V) (hs:Src c L V s (l.map f)) :
    Qt c E L (.call { callee:=.builtin .len,args:=#[x],argTypes:=#[T] }) ty (.int .i64 l.length):=by
  have:=Qt.lenE (ty:=ty) hT hx hs
  rwa [List.length_map] at this
theorem Qt.idxM {e:Nat} {m:Int} (hT:∀ w,(underlying T).run c.P w=.ok (.slice e) w) (hz:∀ w,(sizeOf e).run c.P w=.ok s w) (hx:ev E x=some V) (hs:Src c L V s (l.map f)) (hy:ev E y=some (.int .i64 m)) (h0:0≤m) (h1:m < l.length) :
    Qt c E L (.indexAddr T x y) ty (.pointer (some ⟨vblk V,voff V+m.toNat*s,none⟩)):=Qt.idx hT hz hx hs hy h0 (by rwa [List.length_map])
theorem Cel.eltM {i:Nat} {a:α} (hs:Src c L v s (l.map f)) (hi:l[i]?=some a):Cel c L (vblk v) (voff v+i*s) (f a):=Cel.elt hs (by rw [List.getElem?_map,hi];rfl)
theorem Lo.appendM (i:Nat) {Y:Value} {l':List α} {e:TypeId} {inf:TypeInfo} {zv:Value} {bytes:Nat} (hT:c.P.underlying T=some (.slice t)) (hinf:c.P.info? t=some inf) (hz:inf.zero=some zv) (hsz:inf.size=s) (hby:inf.bytes=bytes) (hzs:zv.cells.size=s) (hs0:Nat.blt 0 s=true)
    (hx:ev E x=some V) (hi:L[i]?=some (row V t s (l.map f))) (hy:ev E y=some Y) (hs:Src c L Y s (l'.map f)) (h1:∀ a∈l',(f a).all Value.oneCell'=true)
    (h63:l.length+l'.length≤9223372036854775807) (hb:(l.length+l'.length)*bytes≤140737488355328) :
    Lo c E L (.call { callee:=.builtin .append,args:=#[x,y],argTypes:=#[T,T] }) e fun v L'=>L'=L.set i (row v t s ((l++l').map f)):=by
  have:=Lo.append (c:=c) (E:=E) (L:=L) (e:=e) i hT hinf hz hsz hby hzs (Nat.le_of_ble_eq_true hs0) hx hi hy hs (by simpa using h1) (by simpa [maxLen] using h63) (by simpa using hb)
  simpa using this
theorem Lo.storeM (i:Nat) {g p j off sz:Nat} {a:α} {e vs:List Value} {u:Value} (a':α) (hx:ev E x=some (.pointer (some ⟨g,p,none⟩))) (hy:ev E y=some u) (hi:L[i]?=some (row V t s (l.map f))) (hg:g=vblk V) (hp:p=voff V+j*s+off)
    (hj:l[j]?=some a) (he:f a=e) (hs:∀ w,(sizeOf T).run c.P w=.ok sz w)
    (hc:u.cells=vs.toArray) (hl:vs.length=sz) (h1:(vs.all Value.oneCell')=true) (hcs:e.take off++vs++e.drop (off+vs.length)=f a') (hfit:Nat.ble (off+sz) s=true) :
    Lo c E L (.store T x y) ty fun _ L'=>L'=L.set i (row V t s ((l.set j a').map f)):=by
  have:=Lo.storeE (c:=c) (E:=E) (L:=L) (ty:=ty) (j:=j) (e:=e) i (f a') hx hy hi hg hp (by rw [List.getElem?_map,hj,←he];rfl) hs hc hl h1 hcs (Nat.le_of_ble_eq_true hfit)
  simpa [List.map_set] using this
theorem Lo.buildM {n:Nat} {parts:List (Nat×Operand)} (f:α→List Value) (l:List α) (vs:List (Nat×Value)) {zv:Value} (hT:∀ w,(underlying T).run c.P w=.ok (.slice t) w) (hs:∀ w,(sizeOf t).run c.P w=.ok s w) (hz:∀ w,(zeroValue t).run c.P w=.ok zv w)
    (hp:parts.map (fun p=>(p.1,ev E p.2))=vs.map (fun p=>(p.1,some p.2))) (hn:Nat.ble (n*s) 16777216=true) (hn0:Nat.blt 0 (n*s)=true)
    (hf:Instr.fill (fun i=>some (i*s,s)) ((Array.range (n*s)).map (zv.cells[·%zv.cells.size]!)) vs=some (l.map f).flatten.toArray) (hl:(l.map f).length=n) (hle:((l.map f).all (fun e=>e.length == s))=true) :
    Lo c E L (.buildSlice T n parts.toArray) ty fun v L'=>L'=row v t s (l.map f) :: L:=Lo.buildSlice vs (l.map f) hT hs hz hp hn hn0 hf hl hle
theorem Fin.ret {w:World} {M:List Nat} {post:Value→List Sp→Prop} {P:Program} {fn:Func} {n:Nat} {Ro:List Sp} {rs:List ResultVar} (hr:fn.results=rs.toArray) (vs:List Value) (hv:RVs ⟨P,fn,n,w,M,Ro,endPost w M post⟩ E L rs vs) (is:List Nat) (hn:is.Nodup) (L':List Sp) (hL:LK.sel L is=L') (h:post (vOf vs) L') :
    Fin ⟨P,fn,n,w,M,Ro,endPost w M post⟩ E L:=Fin.mk hr vs hv is hn L' hL fun _ hs=>⟨_,_,rfl,h,hs⟩
end
end Go.LK
namespace Go.LK
open Go Go.RowKit
def intVals (as:List Int):List Value:=as.map (.int .i64)
def FInt (P:Program):Nat→List Field→Prop
  | _,[]=>True
  | i, f :: fs => f.offset = i ∧ (f.name == "_") = false ∧ P.underlying f.type = some (.int .i64) ∧ FInt P (i + 1) fs
theorem run_eqFields {P:Program} {w:World} {d:Nat} (as bs:List Int):∀ (fs:List Field) (i:Nat),FInt P i fs→i+fs.length=as.length→i+fs.length=bs.length →
    (Op.eqFields (d+1) (intVals as).toArray (intVals bs).toArray fs).run P w=.ok (decide (as.drop i=bs.drop i)) w
  | [],i,_,ha,hb=>by
    have h1:as.drop i=[]:=List.drop_eq_nil_of_le (by simp at ha;omega)
    have h2:bs.drop i=[]:=List.drop_eq_nil_of_le (by simp at hb;omega)
    simp [Op.eqFields,h1,h2]
  | f :: fs,i,hf,ha,hb=>by
    obtain ⟨ho,hn,hu,hr⟩:=hf
    have ih:=run_eqFields (P:=P) (w:=w) (d:=d) as bs fs (i+1) hr (by simp at ha;omega) (by simp at hb;omega)
    have hla:i < as.length:=by simp at ha;omega
    have hlb:i < bs.length:=by simp at hb;omega
    have hn' : ¬ f.name = "_" := by simpa using hn
    have hag:∀ w,(isAgg f.type).run P w=.ok false w:=fun w=>by simp [isAgg,run_underlying hu]
    have pa:∀ (cs:List Int) (h:i < cs.length),(part f.type (intVals cs).toArray f.offset).run P w=.ok (.int .i64 cs[i]) w:=fun cs h=>by
      simp [part,hag,ho,intVals,h]
    simp only [Op.eqFields,if_pos hn',Sem.run_bind,pa as hla,pa bs hlb,Result.andThen_ok,run_equalIn_int w d f.type .i64 .i64 _ _ hu,Sem.run_ite]
    have key:(as.drop i=bs.drop i)↔(as[i]=bs[i]∧as.drop (i+1)=bs.drop (i+1)):=by
      rw [List.drop_eq_getElem_cons hla,List.drop_eq_getElem_cons hlb,List.cons.injEq]
    by_cases he:as[i]=bs[i]
    · have:decide (as.drop i=bs.drop i)=decide (as.drop (i+1)=bs.drop (i+1)):=decide_eq_decide.2 (key.trans ⟨fun h=>h.2,fun h=>⟨he,h⟩⟩)
      rw [this]
      simp [he,ih]
    · have:decide (as.drop i=bs.drop i)=false:=decide_eq_false fun h=>he (key.1 h).1
      rw [this]
      simp [he]
section
variable {c:Cx} {E:Env} {L:List Sp} {ty:TypeId} {x y:Operand} {T:TypeId}
theorem run_eqI {P:Program} {fs:Array Field} (as bs:List Int) (hT:P.underlying T=some (.struct fs)) (hp:P.stoodInHeld T=false) (hf:FInt P 0 fs.toList) (ha:as.length=fs.size) (hb:bs.length=fs.size) (w:World) :
    (Op.equalIn 10000 T (.agg (intVals as).toArray) (.agg (intVals bs).toArray)).run P w=.ok (decide (as=bs)) w:=by
  have h1:P.fieldsOf T=fs:=by simp [Program.fieldsOf,hT]
  rw [run_equalIn_struct w 9999 T _ _ (by rw [h1];exact hT) hp,h1]
  have:=run_eqFields (P:=P) (w:=w) (d:=9998) as bs fs.toList 0 hf (by simp [ha]) (by simp [hb])
  simpa using this
theorem Pu.eqlI {fs:Array Field} (as bs:List Int) (hT:c.P.underlying T=some (.struct fs)) (hp:c.P.stoodInHeld T=false) (hg:c.P.eqGuardType c.P.depth T=false) (hf:FInt c.P 0 fs.toList) (ha:as.length=fs.size) (hb:bs.length=fs.size)
    (hx:ev E x=some (.agg (intVals as).toArray)) (hy:ev E y=some (.agg (intVals bs).toArray)):Pu c E (.binOp .eql T x y T) ty (.bool (decide (as=bs))):=fun a w h _ _ _ _=>by
  simp only [execOp,h.ev hx,h.ev hy,Sem.run_bind,run_eqGuard_agg w .eql T x y _ _ hg,Result.andThen_ok,run_eql_struct,run_eqI as bs hT hp hf ha hb w,Sem.run_pure]
end
end Go.LK
namespace Go.LK
open Go
structure Ev where
  kind:Int
  tick:Int
  s:Int
  id:Int
  code:Int
  a:Int
  b:Int
def Ev.cells (e:Ev):List Value:=[.int .i64 e.kind,.int .i64 e.tick,.int .i64 e.s,.int .i64 e.id,.int .i64 e.code,.int .i64 e.a,.int .i64 e.b]
theorem Ev.one {l:List Ev}:∀ a∈l,(Ev.cells a).all Value.oneCell'=true:=fun _ _=>rfl
namespace Mono
def ends (e:Ev):Bool:=decide (e.kind=9) || decide (e.kind=11) || decide (e.kind=10)
end Mono
end Go.LK
namespace Go.LK
open Go Go.ChangeShapes Go.WideShapes Go.RowKit Go.Deep
section
variable {H:Type} {enc:TypeId×Value→H} {P:Program}
theorem trodAll_stays {W W':World} (hl:laidOutB P=true) (hb:Below W.heap.size W W'):∀ {ts:List TypeId} {vs:List Value} {ds:List (DataW H)} {ps:List MemPlace},
    (∀ t∈ts,P.readableRec t=true∧t < P.types.size)→(∀ x∈ps,x.block < W.heap.size)→DataW.TrodAll enc P W 0 (fun _=>true) true ts vs ds ps →
    DataW.TrodAll enc P W' 0 (fun b=>decide (b < W.heap.size)) true ts vs ds ps
  | [],[],[],_,_,_,h=>h
  | [],_ :: _,_,_,_,_,h=>by simp [DataW.TrodAll] at h
  | [],[],_ :: _,_,_,_,h=>by simp [DataW.TrodAll] at h
  | _ :: _,[],_,_,_,_,h=>by simp [DataW.TrodAll] at h
  | _ :: _,_ :: _,[],_,_,_,h=>by simp [DataW.TrodAll] at h
  | t :: ts,v :: vs,d :: ds,ps,hr,hp,h=>by
    obtain ⟨p,q,h1,h2,rfl⟩:=h
    exact ⟨p,q,Below.trod hl (hr t (by simp)).1 (hr t (by simp)).2 h1 hb (fun x hx=>hp x (by simp [hx])),trodAll_stays hl hb (fun t' ht=>hr t' (by simp [ht])) (fun x hx=>hp x (by simp [hx])) h2,rfl⟩
theorem post_true {f:Func} {s:ChangeSpec} {W W':World} {args:Array Value} {ds:List (DataW H)} {before:List MemPlace} {tb:TypeId} (hl:laidOutB P=true) (hW:DataW.Whole enc P f.params.toList s.vars false W args.toList ds [] before)
    (hfn:s.fn H (ds++[])={ results:=[.lit (.bool true)],args:=ds }) (hvars:s.vars=[]) (hrt:f.resultTypes=#[tb]) (htb:P.underlying tb=some .bool) (hr:∀ t∈f.params.toList,P.readableRec t=true∧t < P.types.size)
    (hb:Below W.heap.size W W'):s.post enc P f false true false false W args (.bool true) W':=by
  have hlt:∀ p∈before,p.block < W.heap.size:=fun p hp=>hW.lt p hp
  obtain ⟨p,q,hA,hV,hpq,hz,hn⟩:=hW
  rw [hvars] at hV
  have hq:q=[]:=by simpa [DataW.TrodVars] using hV
  subst hq
  have hpb:before=p:=by simpa using hpq
  subst hpb
  refine ⟨ds,[],before,[],before,[],⟨before,[],hA,by rw [hvars];rfl,by simp,hz,hn⟩,?_,?_,?_,?_,fun h=>by cases h⟩
  · rw [hfn,hrt]
    exact trodAll_mk1 (shut_bool htb true)
  · rw [hfn]
    exact trodAll_stays hl hb hr hlt hA
  · rw [hfn,hvars]
    rfl
  · exact World.keptBut_mono (fun p hp=>⟨hp,Or.inr (Or.inl hp)⟩) (hb.frame (·∈before))
end
section
variable {H:Type} {enc:TypeId×Value→H} {P:Program} {w:World} {base:Nat} {spare:Nat→Bool} {held:Bool}
end
section
variable {H:Type} {enc:TypeId×Value→H} {P:Program} {W:World}
end
theorem Tri.law {P:Program} {f:FuncId} {args:Array Value} {Ro:List Sp} (h:Tri P f args Ro [] (fun v L'=>v=.bool true∧L'=[])) (W:World) (hro:∀ A∈Ro,A.holds W) :
    Calls P f args W fun e W'=>e=.returned (.bool true)∧Below W.heap.size W W' :=
  (h W (fun A hA=>⟨hro A hA,fun _ _=>by simp⟩) ⟨Frame.refl W _,by simp,by simp,by simp⟩).mono fun _ _ ⟨v,L',he,⟨hv,_⟩,hs⟩=>⟨by rw [he,hv],hs.fr.below⟩
end Go.LK
namespace Go.LK
open Go Go.ChangeShapes Go.WideShapes Go.RowKit Go.Deep
section
variable {H:Type} {enc:TypeId×Value→H} {P:Program} {W:World}
end
end Go.LK
