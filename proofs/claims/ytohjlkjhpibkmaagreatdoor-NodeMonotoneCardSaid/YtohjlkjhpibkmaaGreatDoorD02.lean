/-
  Rules and plain laws that the walks use.
-/
import Derived.Test.YtohjlkjhpibkmaaGreatDoorD01
import Derived.StillTail
import Derived.MapKept
import Derived.Carry
set_option linter.unusedSimpArgs false
set_option linter.unusedVariables false
namespace Go.LK
open Go Go.RowKit
def Out (c:Cx) (E:Env) (L:List Sp) (ops:Array Oper) (o:Oper) (v:Value):Prop :=
  c.Ok→∀ a w,Has c.n a E→St c.w0 c.M L w →
    (Region.wanted o (yielded ops a.tmps)=true∧((execOp a.eval o).run c.P w=.ok (.value v) w ∨
      ∃ f args,(execOp a.eval o).run c.P w=.ok (.enter f args) w∧Calls c.P f args w fun e w'=>e=.returned v∧Frame w [] w')) ∨
    (Region.wanted o (yielded ops a.tmps)=false∧v=undef)
structure Al (c:Cx) (cs:List Value) (ty:TypeId) (o:Oper):Prop where
  op:o.op=.alloc ty
  guard:o.guard=none
  run:∀ (ev:Operand→Value) w,(execOp ev o).run c.P w=.ok (.value (.pointer (some ⟨w.heap.size,0,none⟩))) (w.alloc (.cells cs.toArray ty))
def notAlloc (o:Oper):Bool:=match o.op with|.alloc _=>false|_=>true
def Hd (c:Cx) (ops:Array Oper) (T:Env→Prop) (L:List Sp):List Oper→Env→Prop
  | [],E=>T E
  | o :: rest,E=>∃ d v,o.dst=some d∧Nat.blt d c.n=true∧(Out c E L ops o v∨notAlloc o=false)∧Hd c ops T L rest ((d,v) :: E)
def waits (ops:Array Oper) (i j:Nat):Bool :=
  match ops[i]? with
  | some o=>o.after.any fun e=>Region.binds .any e&&e.on == j
  | none=>false
def headB (ops:Array Oper) (n m:Nat):Bool :=
  (ops.all fun o=>match o.op with|.select ..=>false|_=>true)&&Nat.ble n ops.size &&
  (List.range n).all (fun i=>match (ops[i]?) with
    | none=>false
    | some o=>o.after.all (fun e=>!Region.binds .any e || Nat.blt e.on i) &&
      match o.dst with
      | none=>false
      | some d=>(List.range n).all (fun j=>j == i || (match ops[j]? with|none=>false|some p=>p.dst != some d)) &&
        !(o.looksAt ops).contains d &&
        (o.looksAt ops).all fun t=>(List.range n).all fun j=>(match ops[j]? with|none=>false|some p=>p.dst != some t) || waits ops i j) &&
  (List.range n).all (fun i=>n == ops.size || (List.range (n+1)).any fun j=>Nat.blt i j&&waits ops j i) &&
  (List.range ops.size).all (fun t=>Nat.ble t n || waits ops t (t-1)) &&
  (List.range n).all (fun i=>!waits ops i m&&(i == m || match ops[i]? with|none=>false|some o=>notAlloc o)) &&
  Region.seqB .any ops (ops.size-n) n ((List.range ops.size).map (fun i=>Nat.blt i n)).toArray
def pre:List (Nat×Value)→Env→Env
  | [],E=>E
  | p :: ps,E=>pre ps (p :: E)
def putAll:List (Nat×Value)→Act→Act
  | [],a=>a
  | p :: ps,a=>putAll ps (a.put (some p.1) p.2)
theorem putAll_has {n:Nat}:∀ {ps:List (Nat×Value)} {a:Act} {E:Env},(∀ p∈ps,Nat.blt p.1 n=true)→Has n a E→Has n (putAll ps a) (pre ps E)
  | [],_,_,_,h=>h
  | p :: ps,_,_,hb,h=>putAll_has (ps:=ps) (fun q hq=>hb q (by simp [hq])) (h.put p.2 (hb p (by simp)))
theorem put_slot (a:Act) (d t:Nat) (v:Value) (hd:d < a.tmps.size):(a.put (some d) v).tmps.getD t undef=if d=t then v else a.tmps.getD t undef:=by
  simp only [Act.put]
  by_cases e:d=t
  · subst e;simp [Array.getD_eq_getD_getElem?,hd]
  · rw [if_neg e,Array.getD_eq_getD_getElem?,Array.getD_eq_getD_getElem?,Array.getElem?_setIfInBounds_ne e]
theorem put_size (a:Act) (d:Nat) (v:Value):(a.put (some d) v).tmps.size=a.tmps.size:=by simp [Act.put]
theorem putAll_size:∀ (ps:List (Nat×Value)) (a:Act),(putAll ps a).tmps.size=a.tmps.size
  | [],_=>rfl
  | p :: ps,a=>by simp only [putAll,putAll_size ps,put_size]
theorem putAll_other:∀ (ps:List (Nat×Value)) (a:Act) (t:Nat),(∀ p∈ps,p.1 < a.tmps.size)→(∀ p∈ps,p.1≠t)→(putAll ps a).tmps.getD t undef=a.tmps.getD t undef
  | [],_,_,_,_=>rfl
  | p :: ps,a,t,hb,hn=>by
    simp only [putAll]
    rw [putAll_other ps _ t (fun q hq=>by rw [put_size];exact hb q (by simp [hq])) (fun q hq=>hn q (by simp [hq])),put_slot _ _ _ _ (hb p (by simp)),if_neg (hn p (by simp))]
theorem putAll_at:∀ (ps:List (Nat×Value)) (a:Act) (j:Nat) (p:Nat×Value),(∀ p∈ps,p.1 < a.tmps.size)→(∀ i q,ps[i]?=some q→i≠j→q.1≠p.1)→ps[j]?=some p→(putAll ps a).tmps.getD p.1 undef=p.2
  | [],_,_,_,_,_,h=>by simp at h
  | q :: ps,a,0,p,hb,hn,h=>by
    simp at h;subst h
    simp only [putAll]
    rw [putAll_other ps _ _ (fun r hr=>by rw [put_size];exact hb r (by simp [hr])),put_slot _ _ _ _ (hb q (by simp)),if_pos rfl]
    intro r hr
    obtain ⟨i,hi⟩:=List.mem_iff_getElem?.1 hr
    exact hn (i+1) r (by simpa using hi) (by omega)
  | q :: ps,a,j+1,p,hb,hn,h=>by
    simp only [putAll]
    exact putAll_at ps _ j p (fun r hr=>by rw [put_size];exact hb r (by simp [hr])) (fun i r hi hne=>hn (i+1) r (by simpa using hi) (by omega)) (by simpa using h)
theorem hd_unfold {c:Cx} {ops:Array Oper} {T:Env→Prop} {L:List Sp}:∀ {rest:List Oper} {E:Env},Hd c ops T L rest E→∃ ps:List (Nat×Value),ps.length=rest.length∧T (pre ps E) ∧
    ∀ i p o,ps[i]?=some p→rest[i]?=some o→o.dst=some p.1∧Nat.blt p.1 c.n=true∧(Out c (pre (ps.take i) E) L ops o p.2∨notAlloc o=false)
  | [],E,h=>⟨[],rfl,h,fun i p o hi=>by simp at hi⟩
  | o :: rest,E,h=>by
    obtain ⟨d,v,hd,hb,ho,hr⟩:=h
    obtain ⟨ps,hl,hT,hps⟩:=hd_unfold hr
    refine ⟨(d,v) :: ps,by simp [hl],hT,fun i p o' hi ho'=>?_⟩
    cases i with
    | zero=>simp at hi ho';subst hi;subst ho';exact ⟨hd,hb,ho⟩
    | succ i =>
      simp only [List.getElem?_cons_succ] at hi ho'
      have:=hps i p o' hi ho'
      simpa [pre] using this
theorem nodup_erase:∀ (l:List Nat),l.Nodup→∀ i,l.erase i=l.filter (fun j=>j != i)
  | [],_,_=>rfl
  | a :: l,h,i=>by
    rw [List.nodup_cons] at h
    by_cases e:a=i
    · subst e
      have h2:l.filter (fun j=>j != a)=l:=List.filter_eq_self.2 fun j hj=>by
        have:j≠a:=fun e=>h.1 (e ▸ hj)
        simpa using this
      simp [h2]
    · have h3:(a == i)=false:=by simpa using e
      rw [List.erase_cons,h3,List.filter_cons]
      simp [e,nodup_erase l h.2 i]
theorem count_set {l:List Nat} (hnd:l.Nodup) {p p':Nat→Bool} {i:Nat} (hi:i∈l) (hp:p i=true) (h:∀ j∈l,p' j=(p j&&j != i)):(l.filter p').length+1=(l.filter p).length:=by
  have e:l.filter p'=(l.filter p).erase i:=by
    rw [nodup_erase _ (hnd.filter p) i,List.filter_filter]
    exact List.filter_congr fun j hj=>by rw [h j hj,Bool.and_comm]
  have hm:i∈l.filter p:=List.mem_filter.2 ⟨hi,hp⟩
  rw [e,List.length_erase_of_mem hm]
  have:=List.length_pos_of_mem hm
  omega
structure Edges (ops:Array Oper) (n m:Nat):Prop where
  nosel:∀ (j:Nat) (o:Oper) cs b,ops[j]?=some o→o.op≠.select cs b
  le:n≤ops.size
  back:∀ i,i < n→∀ j,waits ops i j=true→j < i
  head:∀ i,i < n→∃ o d,ops[i]?=some o∧o.dst=some d∧(∀ j p,j < n→j≠i→ops[j]?=some p→p.dst≠some d)∧d∉o.looksAt ops ∧
    ∀ t∈o.looksAt ops,∀ j p,j < n→ops[j]?=some p→p.dst=some t→waits ops i j=true
  sink:n < ops.size→∀ i,i < n→∃ j,i < j∧j≤n∧waits ops j i=true
  chain:∀ t,n < t→t < ops.size→waits ops t (t-1)=true
  still:∀ i,i < n→waits ops i m=false
  alloc:∀ i o,i < n→i≠m→ops[i]?=some o→notAlloc o=true
  seq:Region.seqB .any ops (ops.size-n) n ((List.range ops.size).map (fun i=>Nat.blt i n)).toArray=true
theorem edges_of {ops:Array Oper} {n m:Nat} (h:headB ops n m=true):Edges ops n m:=by
  simp only [headB,Bool.and_eq_true] at h
  obtain ⟨⟨⟨⟨⟨⟨h1,h2⟩,h4⟩,h5⟩,h6⟩,hal⟩,h7⟩:=h
  have hle:n≤ops.size:=Nat.le_of_ble_eq_true h2
  have hh:∀ i,i < n→∃ o d,ops[i]?=some o∧o.dst=some d∧(o.after.all (fun e=>!Region.binds .any e || Nat.blt e.on i))=true∧(∀ j p,j < n→j≠i→ops[j]?=some p→p.dst≠some d)∧d∉o.looksAt ops ∧
      ∀ t∈o.looksAt ops,∀ j p,j < n→ops[j]?=some p→p.dst=some t→waits ops i j=true:=fun i hi=>by
    have h8:=List.all_eq_true.1 h4 i (List.mem_range.2 hi)
    cases ho:ops[i]? with
    | none=>rw [ho] at h8;simp at h8
    | some o =>
      rw [ho] at h8
      simp only [Bool.and_eq_true] at h8
      obtain ⟨h9,h10⟩:=h8
      cases hd:o.dst with
      | none=>rw [hd] at h10;simp at h10
      | some d =>
        rw [hd] at h10
        simp only [Bool.and_eq_true] at h10
        obtain ⟨⟨h11,h12⟩,h13⟩:=h10
        refine ⟨o,d,rfl,hd,h9,fun j p hj hne hp=>?_,by simpa using h12,fun t ht j p hj hp hpt=>?_⟩
        · have:=List.all_eq_true.1 h11 j (List.mem_range.2 hj)
          rw [hp] at this
          simpa [hne] using this
        · have:=List.all_eq_true.1 (List.all_eq_true.1 h13 t ht) j (List.mem_range.2 hj)
          rw [hp] at this
          simpa [hpt] using this
  refine ⟨fun j o cs b ho heq=>by
    have h2:=Array.all_eq_true_iff_forall_mem.1 h1 o (Array.mem_of_getElem? ho)
    simp [heq] at h2,hle,fun i hi j hw=>?_,fun i hi=>?_,fun hn i hi=>?_,fun t ht hts=>?_,fun i hi=>?_,fun i o hi hne ho=>?_,h7⟩
  · obtain ⟨o,d,ho,_,h9,_⟩:=hh i hi
    unfold waits at hw
    rw [ho] at hw
    obtain ⟨e,he,hb⟩:=Array.any_eq_true'.1 hw
    simp only [Bool.and_eq_true,beq_iff_eq] at hb
    have:=Array.all_eq_true_iff_forall_mem.1 h9 e he
    rw [hb.1] at this
    have h10:e.on < i:=by simpa using this
    omega
  · obtain ⟨o,d,h8,h9,_,h10⟩:=hh i hi
    exact ⟨o,d,h8,h9,h10⟩
  · have h8:=List.all_eq_true.1 h5 i (List.mem_range.2 hi)
    have hne:(n == ops.size)=false:=by simpa using Nat.ne_of_lt hn
    rw [hne,Bool.false_or] at h8
    obtain ⟨j,hj,h9⟩:=List.any_eq_true.1 h8
    simp only [Bool.and_eq_true] at h9
    have h10:i+1≤j:=Nat.le_of_ble_eq_true h9.1
    exact ⟨j,h10,by have:=List.mem_range.1 hj;omega,h9.2⟩
  · have h8:=List.all_eq_true.1 h6 t (List.mem_range.2 hts)
    have hne:Nat.ble t n=false:=by
      cases hb:Nat.ble t n
      · rfl
      · have:=Nat.le_of_ble_eq_true hb;omega
    rw [hne] at h8
    simpa using h8
  · have h8:=List.all_eq_true.1 hal i (List.mem_range.2 hi)
    simp only [Bool.and_eq_true,Bool.not_eq_true'] at h8
    exact h8.1
  · have h8:=List.all_eq_true.1 hal i (List.mem_range.2 hi)
    rw [ho] at h8
    simp only [Bool.and_eq_true] at h8
    simpa [hne] using h8.2
theorem ready_waits {ops:Array Oper} {listed:Array Bool} {i j:Nat} (hr:i∈Region.ready .any ops listed) (hw:waits ops i j=true):listed.getD j false=true:=by
  obtain ⟨_,o,ho,hall⟩:=mem_ready.1 hr
  unfold waits at hw
  rw [ho] at hw
  obtain ⟨e,he,hb⟩:=Array.any_eq_true'.1 hw
  simp only [Bool.and_eq_true,beq_iff_eq] at hb
  rw [←hb.2]
  exact hall e he hb.1
theorem waits_ready {ops:Array Oper} {listed:Array Bool} {i:Nat} {o:Oper} (ho:ops[i]?=some o) (hu:listed.getD i true=false) (h:∀ j,waits ops i j=true→listed.getD j false=true):i∈Region.ready .any ops listed :=
  mem_ready.2 ⟨hu,o,ho,fun e he hb=>h e.on (by
    unfold waits;rw [ho]
    exact Array.any_eq_true'.2 ⟨e,he,by simp [hb]⟩)⟩
structure HInv (c:Cx) (cs:List Value) (ty:TypeId) (L:List Sp) (ops:Array Oper) (n m dm:Nat) (ps:List (Nat×Value)) (a0:Act) (listed:Array Bool) (a:Act) (w:World):Prop where
  st:St c.w0 c.M L w
  size:listed.size=ops.size
  only:∀ t,n≤t→listed.getD t false=false
  closed:∀ i j,listed.getD i false=true→waits ops i j=true→listed.getD j false=true
  tsize:a.tmps.size=a0.tmps.size
  defers:a.defers=a0.defers
  new:m < n→listed.getD m false=true→∃ g,a.tmps.getD dm undef=.pointer (some ⟨g,0,none⟩)∧St c.w0 c.M (var g cs ty :: L) w
  at1:∀ i p,i≠m→ps[i]?=some p→listed.getD i false=true→a.tmps.getD p.1 undef=p.2
  at2:∀ t,(∀ i p,ps[i]?=some p→listed.getD i false=true→p.1≠t)→a.tmps.getD t undef=a0.tmps.getD t undef
theorem getD_tf {listed:Array Bool} {i:Nat} (hi:i < listed.size):listed.getD i true=listed.getD i false:=by
  rw [Array.getD_eq_getD_getElem?,Array.getD_eq_getD_getElem?,Array.getElem?_eq_getElem hi];rfl
theorem getD_set_eq {listed:Array Bool} {i:Nat} (hi:i < listed.size):(listed.setIfInBounds i true).getD i false=true:=by
  rw [Array.getD_eq_getD_getElem?];simp [hi]
theorem hd_sound {c:Cx} {ok:c.Ok} {cs:List Value} {ty:TypeId} {k:List It} {E:Env} {L:List Sp} {l:List Oper} {n m dm:Nat} (hB:headB l.toArray n m=true) (hm:m < n→(l.toArray[m]?).bind (·.dst)=some dm) {T:Env→Prop} (hAl:m < n→∀ o,l.toArray[m]?=some o→Al c cs ty o) (hT:∀ E',T E'→(n≤m→O c l.toArray (l.drop n) k E' L)∧(m < n→∀ g,O c l.toArray (l.drop n) k ((dm,.pointer (some ⟨g,0,none⟩)) :: E') (var g cs ty :: L))) (h:Hd c l.toArray T L (l.take n) E) {a0:Act} {w0:World} (ha0:Has c.n a0 E) (hs0:St c.w0 c.M L w0) :
    wpAny c.P .any l.toArray (c.Q k) l.toArray.size (Array.replicate l.toArray.size false) a0 w0:=by
  have G:=edges_of hB
  obtain ⟨ps,hlen,hTE,hps⟩:=hd_unfold h
  have hn:n≤l.length:=by simpa using G.le
  have hpl:ps.length=n:=by rw [hlen,List.length_take];omega
  have hop:∀ i,i < n→∃ o p,l.toArray[i]?=some o∧ps[i]?=some p∧o.dst=some p.1∧Nat.blt p.1 c.n=true∧(Out c (pre (ps.take i) E) L l.toArray o p.2∨notAlloc o=false):=fun i hi=>by
    obtain ⟨o,d,ho,_⟩:=G.head i hi
    have hp:ps[i]?=some ps[i]:=List.getElem?_eq_getElem (by omega)
    have ho':(l.take n)[i]?=some o:=by rw [List.getElem?_take,if_pos hi];simpa using ho
    exact ⟨o,ps[i],ho,hp,hps i _ o hp ho'⟩
  have hblt:∀ p∈ps,Nat.blt p.1 c.n=true:=fun p hp=>by
    obtain ⟨i,hi⟩:=List.mem_iff_getElem?.1 hp
    obtain ⟨o,q,_,hq,_,hb,_⟩:=hop i (by have:=(List.getElem?_eq_some_iff.1 hi).1;omega)
    rw [hi] at hq;cases hq;exact hb
  have hsz:∀ p∈ps,p.1 < a0.tmps.size:=fun p hp=>by rw [ha0.size];exact Nat.le_of_ble_eq_true (hblt p hp)
  have hdist:∀ (i j:Nat) (p q:Nat×Value),ps[i]?=some p→ps[j]?=some q→i≠j→p.1≠q.1:=fun i j p q hi hj hne he=>by
    have hin:i < n:=by have:=(List.getElem?_eq_some_iff.1 hi).1;omega
    have hjn:j < n:=by have:=(List.getElem?_eq_some_iff.1 hj).1;omega
    obtain ⟨o,p',ho,hp',hd,_⟩:=hop i hin
    obtain ⟨o',q',ho',hq',hd',_⟩:=hop j hjn
    rw [hi] at hp';cases hp';rw [hj] at hq';cases hq'
    obtain ⟨o2,d2,ho2,hd2,hne2,_⟩:=G.head i hin
    rw [ho] at ho2;cases ho2;rw [hd] at hd2;cases hd2
    exact hne2 j o' hjn (Ne.symm hne) ho' (by rw [hd',he])
  -- a head that is ready comes to its value,and the invariant goes on
  have step:∀ i,i < n→∀ listed a w,HInv c cs ty L l.toArray n m dm ps a0 listed a w→i∈Region.ready .any l.toArray listed→∀ K:Act→World→Prop,
      (∀ a' w',HInv c cs ty L l.toArray n m dm ps a0 (listed.setIfInBounds i true) a' w'→K a' w')→wpOp c.P l.toArray (c.Q k) i K a w:=by
    intro i hi listed a w I hr K hK
    obtain ⟨o,p,ho,hp,hd,hb,hout⟩:=hop i hi
    obtain ⟨o2,d2,ho2,hd2,hne2,hself,hlooks⟩:=G.head i hi
    rw [ho] at ho2;cases ho2;rw [hd] at hd2;cases hd2
    have hil:i < listed.size:=by rw [I.size];have:=G.le;omega
    have hpa:p.1 < a.tmps.size:=by rw [I.tsize];exact hsz p (List.mem_of_getElem? hp)
    have hset:∀ j,(listed.setIfInBounds i true).getD j false=true↔(j=i∨listed.getD j false=true):=fun j=>by
      by_cases e:j=i
      · subst e;simp [getD_set_eq hil]
      · rw [getD_set_ne false (Ne.symm e)];simp [e]
    have hnew:∀ v w',St c.w0 c.M L w'→(i≠m→v=p.2)→(m < n→(listed.setIfInBounds i true).getD m false=true→∃ g,(a.put o.dst v).tmps.getD dm undef=.pointer (some ⟨g,0,none⟩)∧St c.w0 c.M (var g cs ty :: L) w')→K (a.put o.dst v) w':=fun v w' hs' hv hn2=>hK _ _ (by
      rw [hd] at hn2 ⊢
      refine ⟨hs',by simpa using I.size,fun t ht=>?_,fun j j' hj hw=>?_,by rw [put_size];exact I.tsize,I.defers,hn2,fun j q hjm hj hq=>?_,fun t ht=>?_⟩
      · rw [getD_set_ne false (by omega)];exact I.only t ht
      · rw [hset] at hj ⊢
        rcases hj with rfl|hj
        · exact .inr (ready_waits hr hw)
        · exact .inr (I.closed j j' hj hw)
      · rw [put_slot _ _ _ _ hpa]
        by_cases e:j=i
        · subst e;rw [hp] at hj;cases hj;rw [if_pos rfl];exact hv hjm
        · rw [if_neg (hdist i j p q hp hj (Ne.symm e))]
          exact I.at1 j q hjm hj (((hset j).1 hq).resolve_left e)
      · rw [put_slot _ _ _ _ hpa,if_neg (ht i p hp ((hset i).2 (.inl rfl)))]
        exact I.at2 t (fun j q hj hq=>ht j q hj ((hset j).2 (.inr hq))))
    by_cases him:i=m
    · subst him
      have hal:=hAl hi o ho
      have hdm:p.1=dm:=by have:=hm hi;rw [ho] at this;simpa [hd] using this
      unfold wpOp
      simp only [ho]
      rw [if_pos (by simp [Region.wanted,hal.guard])]
      refine .inl ?_
      unfold Oper.wp
      rw [hal.run]
      refine hnew _ _ (I.st.quiet (frame_alloc w _)) (fun h=>absurd rfl h) fun _ _=>⟨_,?_,I.st.alloc _⟩
      rw [hd,put_slot _ _ _ _ hpa,if_pos hdm]
    have hout:=hout.resolve_right (by rw [G.alloc i o hi him ho];simp)
    have hlex:=putAll_has (ps:=ps.take i) (fun q hq=>hblt q (List.mem_of_mem_take hq)) ha0
    have hslot:∀ t∈o.looksAt l.toArray,a.tmps.getD t undef=(putAll (ps.take i) a0).tmps.getD t undef:=fun t ht=>by
      by_cases hex:∃ (j:Nat) (q:Nat×Value),ps[j]?=some q∧q.1=t
      · obtain ⟨j,q,hj,rfl⟩:=hex
        have hjn:j < n:=by have:=(List.getElem?_eq_some_iff.1 hj).1;omega
        obtain ⟨oj,q',hoj,hq',hdj,_⟩:=hop j hjn
        rw [hj] at hq';cases hq'
        have hw:=hlooks q.1 ht j oj hjn hoj hdj
        have hji:=G.back i hi j hw
        rw [I.at1 j q (fun e=>by rw [e,G.still i hi] at hw;cases hw) hj (ready_waits hr hw),putAll_at (ps.take i) a0 j q (fun r hr=>hsz r (List.mem_of_mem_take hr)) (fun m r hm hne=>by
          rw [List.getElem?_take] at hm
          split at hm
          · exact hdist m j r q hm hj hne
          · cases hm) (by rw [List.getElem?_take,if_pos hji];exact hj)]
      · have hno:∀ (j:Nat) (q:Nat×Value),ps[j]?=some q→q.1≠t:=fun j q hj he=>hex ⟨j,q,hj,he⟩
        rw [I.at2 t (fun j q hj _=>hno j q hj),putAll_other (ps.take i) a0 t (fun r hr=>hsz r (List.mem_of_mem_take hr)) (fun r hr=>by
          obtain ⟨m,hm⟩:=List.mem_iff_getElem?.1 (List.mem_of_mem_take hr)
          exact hno m r hm)]
    have hasz:a.tmps.size=(putAll (ps.take i) a0).tmps.size:=by rw [putAll_size,I.tsize]
    have hget:∀ t∈o.looksAt l.toArray,a.tmps[t]?=(putAll (ps.take i) a0).tmps[t]?:=fun t ht=>by
      have h1:=hslot t ht
      rw [Array.getD_eq_getD_getElem?,Array.getD_eq_getD_getElem?] at h1
      by_cases hlt:t < a.tmps.size
      · have hlt':t < (putAll (ps.take i) a0).tmps.size:=hasz ▸ hlt
        rw [Array.getElem?_eq_getElem hlt,Array.getElem?_eq_getElem hlt'] at h1 ⊢
        exact congrArg some h1
      · rw [Array.getElem?_eq_none (Nat.le_of_not_lt hlt),Array.getElem?_eq_none (hasz ▸ Nat.le_of_not_lt hlt)]
    have hexec:execOp a.eval o=execOp (putAll (ps.take i) a0).eval o:=execOp_congr o (fun cs b=>G.nosel i o cs b ho) (fun x hx=>by
      cases x with
      | tmp t=>exact hslot t (List.mem_append_left _ (List.mem_filterMap.2 ⟨.tmp t,by simpa using hx,rfl⟩))
      | _=>rfl)
    have hwant:Region.wanted o (yielded l.toArray a.tmps)=Region.wanted o (yielded l.toArray (putAll (ps.take i) a0).tmps):=by
      unfold Region.wanted
      cases hg:o.guard with
      | none=>rfl
      | some gw =>
        obtain ⟨g,want⟩:=gw
        have:yielded l.toArray a.tmps g=yielded l.toArray (putAll (ps.take i) a0).tmps g:=by
          unfold yielded
          cases ht:(l.toArray[g]?).bind (·.dst) with
          | none=>rfl
          | some t =>
            simp only [Option.bind_some]
            rw [hget t (by
              unfold Oper.looksAt
              rw [hg]
              exact List.mem_append_right _ (by simp only [ht];simp))]
        simp only [this]
    have hnext:∀ w',Frame w [] w'→K (a.put o.dst p.2) w':=fun w' hf=>hnew _ _ (I.st.quiet hf) (fun _=>rfl) fun hmn hml=>by
      obtain ⟨g,h1,h2⟩:=I.new hmn (((hset m).1 hml).resolve_left (Ne.symm him))
      obtain ⟨om,pm,hom,hpm,hdm,_⟩:=hop m hmn
      have hdm':pm.1=dm:=by have:=hm hmn;rw [hom] at this;simpa [hdm] using this
      refine ⟨g,?_,h2.quiet hf⟩
      rw [hd,put_slot _ _ _ _ hpa,if_neg (fun e=>hdist i m p pm hp hpm him (by rw [e,hdm'])),h1]
    unfold wpOp
    simp only [ho]
    rcases hout ok _ w hlex I.st with ⟨hw1,hrun⟩|⟨hw1,hv⟩
    · rw [if_pos (by rw [hwant];exact hw1)]
      refine .inl ?_
      unfold Oper.wp
      rw [hexec]
      rcases hrun with hrun|⟨f,args,hrun,hcall⟩
      · rw [hrun];exact hnext w (Frame.refl w _)
      · rw [hrun]
        refine Calls.mono hcall ?_
        rintro e w' ⟨rfl,hs'⟩
        exact hnext w' hs'
    · rw [if_neg (by rw [hwant,hw1];simp),←hv]
      exact hnext w (Frame.refl w _)
  -- by the number of heads that are still to come
  have main:∀ h listed a w,HInv c cs ty L l.toArray n m dm ps a0 listed a w→((List.range n).filter fun i=>!listed.getD i false).length=h→wpAny c.P .any l.toArray (c.Q k) (l.toArray.size-n+h) listed a w:=by
    intro h
    induction h with
    | zero =>
      intro listed a w I hh
      have hall:∀ i,i < n→listed.getD i false=true:=fun i hi=>by
        have h1:(List.range n).filter (fun i=>!listed.getD i false)=[]:=List.eq_nil_of_length_eq_zero hh
        have h2:=List.filter_eq_nil_iff.1 h1 i (List.mem_range.2 hi)
        simpa using h2
      have hlist:listed=((List.range l.toArray.size).map (fun i=>Nat.blt i n)).toArray:=by
        apply Array.ext
        · simp [I.size]
        · intro i h1 h2
          have h3:listed.getD i false=listed[i]:=by rw [Array.getD_eq_getD_getElem?,Array.getElem?_eq_getElem h1];rfl
          rw [←h3]
          simp only [List.getElem_toArray,List.getElem_map,List.getElem_range]
          rcases Nat.lt_or_ge i n with hlt|hge
          · rw [hall i hlt];exact (Nat.ble_eq_true_of_le hlt).symm
          · rw [I.only i hge]
            cases hb:Nat.blt i n
            · rfl
            · have:=Nat.le_of_ble_eq_true hb;omega
      have hall2:∀ t,(∀ i p,ps[i]?=some p→i=m→p.1≠t)→a.tmps.getD t undef=(putAll ps a0).tmps.getD t undef:=fun t hnm=>by
        by_cases hex:∃ (j:Nat) (q:Nat×Value),ps[j]?=some q∧q.1=t
        · obtain ⟨j,q,hj,rfl⟩:=hex
          rw [I.at1 j q (fun e=>hnm j q hj e rfl) hj (hall j (by have:=(List.getElem?_eq_some_iff.1 hj).1;omega)),putAll_at ps a0 j q hsz (fun m r hm hne=>hdist m j r q hm hj hne) hj]
        · have hno:∀ (j:Nat) (q:Nat×Value),ps[j]?=some q→q.1≠t:=fun j q hj he=>hex ⟨j,q,hj,he⟩
          rw [I.at2 t (fun j q hj _=>hno j q hj),putAll_other ps a0 t hsz (fun r hr=>by
            obtain ⟨m,hm⟩:=List.mem_iff_getElem?.1 hr
            exact hno m r hm)]
      have hhas:=putAll_has hblt ha0
      have hwl:wpList c.P l.toArray (c.Q k) (l.drop n) a w:=by
        rcases Nat.lt_or_ge m n with hmn|hmn
        · obtain ⟨g,h1,h2⟩:=I.new hmn (hall m hmn)
          obtain ⟨om,pm,hom,hpm,hdm,hbm,_⟩:=hop m hmn
          have hdm':pm.1=dm:=by have:=hm hmn;rw [hom] at this;simpa [hdm] using this
          refine (hT _ hTE).2 hmn g ok a w ⟨by rw [I.tsize];exact ha0.size,by rw [I.defers];exact ha0.defers,fun t v ht=>?_⟩ h2
          rw [look_cons] at ht
          by_cases e:dm=t
          · rw [if_pos e] at ht;cases ht;rw [←e];exact h1
          · rw [if_neg e] at ht
            rw [hall2 t (fun i p hi him=>by subst him;rw [hpm] at hi;cases hi;rw [hdm'];exact e)]
            exact hhas.at_ t v ht
        · refine (hT _ hTE).1 hmn ok a w ⟨by rw [I.tsize];exact ha0.size,by rw [I.defers];exact ha0.defers,fun t v ht=>?_⟩ I.st
          rw [hall2 t (fun i p hi him=>by have:=(List.getElem?_eq_some_iff.1 hi).1;omega)]
          exact hhas.at_ t v ht
      have hdl:(l.drop n).length=l.toArray.size-n:=by simp
      have:=wpAny_of_seq (md:=.any) (ops:=l.toArray) (l.drop n) n listed a w (fun j=>by simp [List.getElem?_drop]) (by rw [hdl,hlist];exact G.seq) hwl
      rw [hdl] at this
      simpa using this
    | succ h ih =>
      intro listed a w I hh
      have hheads:∀ i∈Region.ready .any l.toArray listed,i < n:=fun i hr=>by
        rcases Nat.lt_or_ge i n with hlt|hge
        · exact hlt
        · exfalso
          obtain ⟨hu,o,ho,_⟩:=mem_ready.1 hr
          have his:i < l.toArray.size:=(Array.getElem?_eq_some_iff.1 ho).1
          have hin:i=n:=by
            rcases Nat.eq_or_lt_of_le hge with e|hgt
            · exact e.symm
            · have h1:=ready_waits hr (G.chain i hgt his)
              rw [I.only (i-1) (by omega)] at h1
              cases h1
          subst hin
          have hall:∀ m j,i-j=m→j < i→listed.getD j false=true:=by
            intro m
            induction m using Nat.strongRecOn with
            | _ m ihm =>
              intro j hm hj
              obtain ⟨j',h1,h2,h3⟩:=G.sink his j hj
              rcases Nat.eq_or_lt_of_le h2 with e|hlt
              · subst e;exact ready_waits hr h3
              · exact I.closed j' j (ihm (i-j') (by omega) j' rfl hlt) h3
          have h1:(List.range i).filter (fun i=>!listed.getD i false)=[]:=List.filter_eq_nil_iff.2 fun j hj=>by
            rw [hall (i-j) j rfl (List.mem_range.1 hj)];simp
          rw [h1] at hh
          simp at hh
      refine ⟨fun h0=>?_,fun i hr=>?_⟩
      · exfalso
        -- the least head that is not listed is ready
        have hex:∃ i,i < n∧listed.getD i false=false:=by
          have h1:(List.range n).filter (fun i=>!listed.getD i false)≠[]:=fun h1=>by rw [h1] at hh;simp at hh
          obtain ⟨i,hi⟩:=List.exists_mem_of_ne_nil _ h1
          obtain ⟨h2,h3⟩:=List.mem_filter.1 hi
          exact ⟨i,List.mem_range.1 h2,by simpa using h3⟩
        have least:∀ m i,i≤m→i < n→listed.getD i false=false→∃ j,j∈Region.ready .any l.toArray listed:=by
          intro m
          induction m with
          | zero =>
            intro i him hin hu
            obtain ⟨o,_,ho,_⟩:=G.head i hin
            exact ⟨i,waits_ready ho (by rw [getD_tf (by rw [I.size];have:=G.le;omega)];exact hu) fun j hw=>by have:=G.back i hin j hw;omega⟩
          | succ m ihm =>
            intro i him hin hu
            by_cases hw:∃ j,waits l.toArray i j=true∧listed.getD j false=false
            · obtain ⟨j,hw,hj⟩:=hw
              have:=G.back i hin j hw
              exact ihm j (by omega) (by omega) hj
            · obtain ⟨o,_,ho,_⟩:=G.head i hin
              refine ⟨i,waits_ready ho (by rw [getD_tf (by rw [I.size];have:=G.le;omega)];exact hu) fun j hwj=>?_⟩
              cases hb:listed.getD j false
              · exact absurd ⟨j,hwj,hb⟩ hw
              · rfl
        obtain ⟨i,hi,hu⟩:=hex
        obtain ⟨j,hj⟩:=least i i (Nat.le_refl _) hi hu
        rw [h0] at hj;cases hj
      · have hin:=hheads i hr
        have hu:listed.getD i false=false:=by
          rw [←getD_tf (by rw [I.size];have:=G.le;omega)]
          exact (mem_ready.1 hr).1
        refine step i hin listed a w I hr _ fun a' w' I'=>ih _ a' w' I' ?_
        have hc:=count_set (List.nodup_range (n:=n)) (p:=fun i=>!listed.getD i false) (p':=fun j=>!(listed.setIfInBounds i true).getD j false) (List.mem_range.2 hin) (by simp [hu]) (fun j hj=>by
          by_cases e:j=i
          · subst e;rw [getD_set_eq (by rw [I.size];have:=G.le;omega)];simp
          · rw [getD_set_ne false (Ne.symm e)];simp [e])
        omega
  have I0:HInv c cs ty L l.toArray n m dm ps a0 (Array.replicate l.toArray.size false) a0 w0:=by
    have hf:∀ j,(Array.replicate l.toArray.size false).getD j false=false:=fun j=>getD_replicate_false _ j
    exact ⟨hs0,by simp,fun t _=>hf t,fun i j hi=>(by rw [hf] at hi;cases hi),rfl,rfl,fun _ hi=>(by rw [hf] at hi;cases hi),fun i p _ _ hi=>(by rw [hf] at hi;cases hi),fun t _=>rfl⟩
  have:=main n _ a0 w0 I0 (by
    have h1:(List.range n).filter (fun i=>!(Array.replicate l.toArray.size false).getD i false)=List.range n:=List.filter_eq_self.2 fun j _=>by rw [getD_replicate_false];rfl
    rw [h1,List.length_range])
  have hsz2:=G.le
  rwa [show l.toArray.size-n+n=l.toArray.size from by omega] at this
section
variable {c:Cx} {k:List It} {E:Env} {L:List Sp} {ops:Array Oper} {o:Op} {ty:TypeId} {d:Nat} {pos:String} {af:Array Edge} {v:Value} {rest:List Oper} {T:Env→Prop}
theorem J.drawHead {id:Nat} {l:List Oper} (n:Nat) (hm:c.P.follows .mixedOrders=true) (hB:headB l.toArray n l.length=true) (h:Hd c l.toArray (fun E'=>O c l.toArray (l.drop n) k E' L) L (l.take n) E) :
    J c (.code (.region id l.toArray true) :: k) E L:=fun ok _ _ ha hs=>wp_region_any hm (by
  have hle:=(edges_of hB).le
  exact hd_sound (ok:=ok) (cs:=[]) (ty:=0) (dm:=0) hB (fun h=>by simp at hle;omega) (fun h=>by simp at hle;omega) (fun _ h=>⟨fun _=>h,fun h'=>by simp at hle;omega⟩) h ha hs.drew')
theorem J.drawNew {id:Nat} {l:List Oper} (n m dm:Nat) {u:Value} {ty':TypeId} {p':String} {af':Array Edge} {T':TypeId} (cs:List Value) (hm:c.P.follows .mixedOrders=true) (hB:headB l.toArray n m=true) (hmn:Nat.blt m n=true)
    (hl:l[m]?=some ⟨some dm,.alloc T',ty',p',af',none⟩) (hz:∀ w,(zeroValue T').run c.P w=.ok u w) (hc:u.cells=cs.toArray)
    (h:Hd c l.toArray (fun E'=>∀ g,O c l.toArray (l.drop n) k ((dm,.pointer (some ⟨g,0,none⟩)) :: E') (var g cs T' :: L)) L (l.take n) E) :
    J c (.code (.region id l.toArray true) :: k) E L:=fun ok _ _ ha hs=>wp_region_any hm (by
  have hmn':m < n:=Nat.le_of_ble_eq_true hmn
  refine hd_sound (ok:=ok) (cs:=cs) (ty:=T') (dm:=dm) hB (fun _=>by simp [hl]) (fun _ o ho=>?_) (fun _ h=>⟨fun h'=>by omega,fun _=>h⟩) h ha hs.drew'
  rw [List.getElem?_toArray,hl] at ho
  cases ho
  exact ⟨rfl,rfl,fun ev w=>by simp [execOp,Instr.alloc,hz,newVar,hc,run_newRow]⟩)
theorem Hd.new {T':TypeId} (hd:Nat.blt d c.n=true) (h:Hd c ops T L rest ((d,undef) :: E)):Hd c ops T L (⟨some d,.alloc T',ty,pos,af,none⟩ :: rest) E:=⟨d,undef,rfl,hd,.inr rfl,h⟩
theorem Hd.q (hq:Qt c E L o ty v) (hd:Nat.blt d c.n=true) (h:Hd c ops T L rest ((d,v) :: E)):Hd c ops T L (⟨some d,o,ty,pos,af,none⟩ :: rest) E :=
  ⟨d,v,rfl,hd,.inl fun ok a w ha hs=>.inl ⟨by simp [Region.wanted],.inl (hq ok a w ha hs _ _ _ _)⟩,h⟩
theorem Hd.p (hq:Pu c E o ty v) (hd:Nat.blt d c.n=true) (h:Hd c ops T L rest ((d,v) :: E)):Hd c ops T L (⟨some d,o,ty,pos,af,none⟩ :: rest) E:=Hd.q hq.qt hd h
theorem Hd.gq {j t:Nat} {want b:Bool} (hj:(ops[j]?).bind (·.dst)=some t) (ht:look E t=some (.bool b)) (hb:b=want) (hn:Nat.blt t c.n=true) (hq:Qt c E L o ty v) (hd:Nat.blt d c.n=true)
    (h:Hd c ops T L rest ((d,v) :: E)):Hd c ops T L (⟨some d,o,ty,pos,af,some (j,want)⟩ :: rest) E :=
  ⟨d,v,rfl,hd,.inl fun ok a w ha hs=>.inl ⟨wanted_yes (j:=j) (t:=t) (want:=want) ha rfl hj (hb ▸ ht) hn,.inl (hq ok a w ha hs _ _ _ _)⟩,h⟩
theorem Hd.gskip {j t:Nat} {want:Bool} {u:Value} (hj:(ops[j]?).bind (·.dst)=some t) (ht:look E t=some u) (hu:boolOf u≠some want) (hn:Nat.blt t c.n=true) (hd:Nat.blt d c.n=true)
    (h:Hd c ops T L rest ((d,undef) :: E)):Hd c ops T L (⟨some d,o,ty,pos,af,some (j,want)⟩ :: rest) E :=
  ⟨d,undef,rfl,hd,.inl fun _ _ _ ha _=>.inr ⟨wanted_no (j:=j) (t:=t) (want:=want) ha rfl hj ht hu hn,rfl⟩,h⟩
theorem Hd.nil {E':Env} (h:T E'):Hd c ops T L [] E':=h
theorem Hd.call {f:FuncId} {x:Operand} {xs:List Operand} {ts:Array TypeId} {vs caps:List Value} {RoC:List Sp} {post:Value→List Sp→Prop} (hcall:∀ args w,(callFunc f args).run c.P w=.ok (.enter f args) w) (hx:ev E x=some (.func (.func f) #[] caps.toArray))
    (hxs:xs.map (ev E)=vs.map some) (ht:Tri c.P f (vs++caps).toArray RoC [] post) (hpost:∀ u L',post u L'→u=v∧L'=[]) (hro:RoOk c L [] RoC) (hd:Nat.blt d c.n=true) (h:Hd c ops T L rest ((d,v) :: E)) :
    Hd c ops T L (⟨some d,.call { callee:=.value x,args:=xs.toArray,argTypes:=ts },ty,pos,af,none⟩ :: rest) E :=
  ⟨d,v,rfl,hd,.inl fun ok a w ha hs=>.inl ⟨by simp [Region.wanted],.inr ⟨f,(vs++caps).toArray,by
      have h1:xs.map a.eval=vs:=ha.evs hxs
      simp [execOp,resolve,Deferred.ofValue,invoke,ha.ev hx,h1,hcall],by
      refine (ht w (hro ok w hs) ⟨Frame.refl w _,by simp,by simp,by simp⟩).mono ?_
      rintro e w' ⟨u,L',rfl,hp,hs'⟩
      obtain ⟨rfl,rfl⟩:=hpost u L' hp
      exact ⟨rfl,hs'.fr⟩⟩⟩,h⟩
end
end Go.LK
namespace Go.LK
open Go Go.RowKit
def extD (d:Option Nat) (v:Value) (E:Env):Env:=match d with|some d=>(d,v) :: E|none=>E
def LoudX (c:Cx) (E:Env) (L:List Sp) (ops:Array Oper) (o:Oper) (R:Value→List Sp→Prop):Prop :=
  c.Ok→∀ a w,Has c.n a E→St c.w0 c.M L w →
    (Region.wanted o (yielded ops a.tmps)=true∧o.wp c.P a w (fun a' w'=>∃ v L',a'=a.put o.dst v∧R v L'∧St c.w0 c.M L' w') (fun _ _ _=>False)) ∨
    (Region.wanted o (yielded ops a.tmps)=false∧R undef L)
def Keeps (c:Cx) (L K:List Sp):Prop:=∀ w,St c.w0 c.M L w→St c.w0 c.M K w
def pureO (o:Oper):Bool:=match o.op,o.guard with
  | .move _,none=>true
  | .assign _,none=>true
  | .extract _ _,none=>true
  | .binOp ..,none=>true
  | .unOp ..,none=>true
  | .fieldAddr ..,none=>true
  | .nilCheck _,none=>true
  | _,_=>false
def pureA (ops:Array Oper) (j:Nat):Bool:=match ops[j]? with
  | some o=>pureO o
  | none=>false
def allB (ops:Array Oper) (i:Nat) (seen:List Nat):Bool:=seen.all fun j=>(waits ops i j || seen.any fun m=>waits ops i m&&(waits ops m j || seen.any fun q=>waits ops m q&&waits ops q j)) || pureA ops j
def Mx (c:Cx) (ops:Array Oper) (T:Env→List Sp→Prop):List Nat→List (Nat×Bool)→Env→List Sp→List Sp→Prop
  | _,[],E,_,L=>T E L
  | seen,(i,false) :: rest,E,K,L=>∃ o d v,ops[i]?=some o∧o.dst=some d∧Nat.blt d c.n=true∧Out c E K ops o v∧(pureO o=true→Out c E [] ops o v)∧Mx c ops T (i :: seen) rest ((d,v) :: E) K L
  | seen,(i,true) :: rest,E,K,L=>∃ o,ops[i]?=some o∧(∀ d,o.dst=some d→Nat.blt d c.n=true) ∧
      LoudX c E L ops o fun v L'=>∃ K',Keeps c L' K'∧(allB ops i seen=true∨Keeps c K' K)∧Mx c ops T (i :: seen) rest (extD o.dst v E) K' L'
def ordB (ops:Array Oper):List Nat→List Nat→List (Nat×Bool)→Bool
  | _,_,[]=>true
  | seen,since,(i,b) :: rest =>
    (match ops[i]? with|none=>false|some o=>o.after.all fun e=>!Region.binds .any e || seen.contains e.on)&&!seen.contains i &&
    (since.isEmpty || since.any fun j=>waits ops i j)&&ordB ops (i :: seen) (bif b then [i] else bif since.isEmpty then [] else i :: since) rest
def confB (ops:Array Oper):Bool :=
  (List.range ops.size).all fun i=>(List.range ops.size).all fun j=>i == j || match ops[i]?,ops[j]? with
    | some o,some p=>match p.dst with
      | some t=>o.dst != some t&&(!(o.looksAt ops).contains t || waits ops i j || waits ops j i)
      | none=>true
    | _,_=>false
def mixB (ops:Array Oper) (ord:List (Nat×Bool)):Bool :=
  (ops.all fun o=>match o.op with|.select ..=>false|_=>true)&&(List.range ops.size).all (fun i=>(ord.map (·.1)).contains i)&&ordB ops [] [] ord&&confB ops
theorem ord_sound {ops:Array Oper}:∀ {rest:List (Nat×Bool)} {seen since:List Nat},ordB ops seen since rest=true →
    (∀ q1 x q2,rest=q1++x :: q2→∀ j,waits ops x.1 j=true→j∈seen∨j∈q1.map (·.1))∧((rest.map (·.1)).Nodup∧∀ x∈rest,x.1∉seen) ∧
    (since≠[]→∀ q1 x q2,rest=q1++x :: q2→∃ j,waits ops x.1 j=true∧(j∈since∨j∈q1.map (·.1))) ∧
    (∀ q1 l q2 x q3,rest=q1++(l,true) :: (q2++x :: q3)→∃ j,waits ops x.1 j=true∧(j=l∨j∈q2.map (·.1)))
  | [],_,_,_=>⟨fun q1 x q2 h=>by simp at h,⟨by simp,by simp⟩,fun _ q1 x q2 h=>by simp at h,fun q1 l q2 x q3 h=>by simp at h⟩
  | (i,b) :: rest,seen,since,h=>by
    simp only [ordB,Bool.and_eq_true] at h
    obtain ⟨⟨⟨h1,h2⟩,h3⟩,h4⟩:=h
    obtain ⟨ia,⟨ib,ib2⟩,ic,id⟩:=ord_sound h4
    refine ⟨fun q1 x q2 hq j hw=>?_,⟨?_,fun x hx=>?_⟩,fun hne q1 x q2 hq=>?_,fun q1 l q2 x q3 hq=>?_⟩
    · cases q1 with
      | nil =>
        simp at hq
        obtain ⟨rfl,rfl⟩:=hq
        refine .inl ?_
        unfold waits at hw
        cases ho:ops[i]? with
        | none=>rw [ho] at h1;simp at h1
        | some o =>
          simp only [ho] at hw h1
          obtain ⟨e,he,hb⟩:=Array.any_eq_true'.1 hw
          simp only [Bool.and_eq_true,beq_iff_eq] at hb
          have:=Array.all_eq_true_iff_forall_mem.1 h1 e he
          rw [hb.1] at this
          rw [←hb.2]
          simpa using this
      | cons y q1 =>
        simp at hq
        obtain ⟨rfl,rfl⟩:=hq
        rcases ia q1 x q2 rfl j hw with h5|h5
        · rcases List.mem_cons.1 h5 with rfl|h5
          · exact .inr (by simp)
          · exact .inl h5
        · exact .inr (List.mem_cons_of_mem _ h5)
    · simp only [List.map_cons,List.nodup_cons]
      refine ⟨fun hi=>?_,ib⟩
      obtain ⟨x,hx,hxi⟩:=List.mem_map.1 hi
      exact ib2 x hx (by rw [hxi];simp)
    · rcases List.mem_cons.1 hx with rfl|hx
      · simpa using h2
      · exact fun hs=>ib2 x hx (List.mem_cons_of_mem _ hs)
    · cases q1 with
      | nil =>
        simp at hq
        obtain ⟨rfl,rfl⟩:=hq
        have hne':since.isEmpty=false:=by cases since<;>simp_all
        rw [hne',Bool.false_or] at h3
        obtain ⟨j,hj,hw⟩:=List.any_eq_true.1 h3
        exact ⟨j,hw,.inl hj⟩
      | cons y q1 =>
        simp at hq
        obtain ⟨rfl,rfl⟩:=hq
        have hne':since.isEmpty=false:=by cases since<;>simp_all
        obtain ⟨j,hw,hj⟩:=ic (by cases b<;>simp [hne']) q1 x q2 rfl
        refine ⟨j,hw,?_⟩
        rcases hj with hj|hj
        · cases b
          · simp [hne'] at hj
            rcases hj with rfl|hj
            · exact .inr (by simp)
            · exact .inl hj
          · simp at hj;subst hj;exact .inr (by simp)
        · exact .inr (List.mem_cons_of_mem _ hj)
    · cases q1 with
      | nil =>
        simp at hq
        obtain ⟨⟨rfl,rfl⟩,rfl⟩:=hq
        obtain ⟨j,hw,hj⟩:=ic (by simp) q2 x q3 rfl
        refine ⟨j,hw,?_⟩
        rcases hj with hj|hj
        · simp at hj;exact .inl hj
        · exact .inr hj
      | cons y q1 =>
        simp at hq
        obtain ⟨rfl,rfl⟩:=hq
        exact id q1 l q2 x q3 (by simp)
theorem ord_there {ops:Array Oper}:∀ {rest:List (Nat×Bool)} {seen since:List Nat},ordB ops seen since rest=true→∀ x∈rest,x.1 < ops.size
  | [],_,_,_,x,hx=>by simp at hx
  | (i,b) :: rest,seen,since,h,x,hx=>by
    simp only [ordB,Bool.and_eq_true] at h
    rcases List.mem_cons.1 hx with rfl|hx
    · cases ho:ops[i]? with
      | none=>simp [ho] at h
      | some o=>exact (Array.getElem?_eq_some_iff.1 ho).1
    · exact ord_there h.2 x hx
theorem mixAll {ops:Array Oper} {ord:List (Nat×Bool)} (h:mixB ops ord=true):∀ x∈ord,x.1 < ops.size:=by
  simp only [mixB,Bool.and_eq_true] at h
  exact ord_there h.1.2
structure MixOk (ops:Array Oper) (ord:List (Nat×Bool)):Prop where
  nosel:∀ (j:Nat) (o:Oper) cs b,ops[j]?=some o→o.op≠.select cs b
  all:∀ i,i < ops.size→i∈ord.map (·.1)
  back:∀ q1 x q2,ord=q1++x :: q2→∀ j,waits ops x.1 j=true→j∈q1.map (·.1)
  nd:(ord.map (·.1)).Nodup
  since:∀ q1 l q2 x q3,ord=q1++(l,true) :: (q2++x :: q3)→∃ j,waits ops x.1 j=true∧(j=l∨j∈q2.map (·.1))
  conf:∀ i j o p t,i≠j→ops[i]?=some o→ops[j]?=some p→p.dst=some t→o.dst≠some t∧(t∈o.looksAt ops→waits ops i j=true∨waits ops j i=true)
theorem mix_of {ops:Array Oper} {ord:List (Nat×Bool)} (h:mixB ops ord=true):MixOk ops ord:=by
  simp only [mixB,Bool.and_eq_true] at h
  obtain ⟨⟨⟨h1,h2⟩,h3⟩,h4⟩:=h
  obtain ⟨ha,⟨hb,_⟩,_,hd⟩:=ord_sound h3
  refine ⟨fun j o cs b ho heq=>by
    have h2:=Array.all_eq_true_iff_forall_mem.1 h1 o (Array.mem_of_getElem? ho)
    simp [heq] at h2,fun i hi=>by simpa using List.all_eq_true.1 h2 i (List.mem_range.2 hi),fun q1 x q2 hq j hw=>(ha q1 x q2 hq j hw).resolve_left (by simp),hb,hd,fun i j o p t hne ho hp ht=>?_⟩
  have hi:i < ops.size:=(Array.getElem?_eq_some_iff.1 ho).1
  have hj:j < ops.size:=(Array.getElem?_eq_some_iff.1 hp).1
  have h5:=List.all_eq_true.1 (List.all_eq_true.1 h4 i (List.mem_range.2 hi)) j (List.mem_range.2 hj)
  have hne':(i == j)=false:=by simpa using hne
  rw [hne',Bool.false_or,ho,hp] at h5
  simp only [ht,Bool.and_eq_true,Bool.or_eq_true] at h5
  refine ⟨by simpa using h5.1,fun hm=>?_⟩
  rcases h5.2 with (h6|h6)|h6
  · simp [hm] at h6
  · exact .inl h6
  · exact .inr h6
structure En where
  i:Nat
  q:Bool
  o:Oper
  v:Value
  E:Env
  K:List Sp
def acts:List En→Act→Act
  | [],a=>a
  | e :: es,a=>acts es (a.put e.o.dst e.v)
theorem putO_size (a:Act) (d:Option Nat) (v:Value):(a.put d v).tmps.size=a.tmps.size:=by cases d<;>simp [Act.put]
theorem putO_defers (a:Act) (d:Option Nat) (v:Value):(a.put d v).defers=a.defers:=by cases d<;>rfl
theorem putO_other (a:Act) (d:Option Nat) (v:Value) (t:Nat) (h:d≠some t):(a.put d v).tmps.getD t undef=a.tmps.getD t undef:=by
  cases d with
  | none=>rfl
  | some d =>
    have:d≠t:=fun e=>h (by rw [e])
    simp only [Act.put]
    rw [Array.getD_eq_getD_getElem?,Array.getD_eq_getD_getElem?,Array.getElem?_setIfInBounds_ne this]
theorem acts_size:∀ (es:List En) (a:Act),(acts es a).tmps.size=a.tmps.size
  | [],_=>rfl
  | e :: es,a=>by rw [acts,acts_size es,putO_size]
theorem acts_app:∀ (es fs:List En) (a:Act),acts (es++fs) a=acts fs (acts es a)
  | [],_,_=>rfl
  | e :: es,fs,a=>by simp only [List.cons_append,acts,acts_app es]
theorem acts_other:∀ (es:List En) (a:Act) (t:Nat),(∀ e∈es,e.o.dst≠some t)→(acts es a).tmps.getD t undef=a.tmps.getD t undef
  | [],_,_,_=>rfl
  | e :: es,a,t,h=>by rw [acts,acts_other es _ t (fun f hf=>h f (by simp [hf])),putO_other _ _ _ _ (h e (by simp))]
theorem acts_at:∀ (es:List En) (a:Act) (t:Nat) (v:Value),t < a.tmps.size→(∀ e∈es,e.o.dst=some t→e.v=v)→(∃ e∈es,e.o.dst=some t)→(acts es a).tmps.getD t undef=v
  | [],_,_,_,_,_,h=>by obtain ⟨e,he,_⟩:=h;simp at he
  | e :: es,a,t,v,ht,hv,h=>by
    by_cases h2:∃ f∈es,f.o.dst=some t
    · exact acts_at es _ t v (by rw [putO_size];exact ht) (fun f hf=>hv f (by simp [hf])) h2
    · obtain ⟨f,hf,hft⟩:=h
      rcases List.mem_cons.1 hf with rfl|hf
      · rw [acts,acts_other es _ t (fun g hg hgt=>h2 ⟨g,hg,hgt⟩),hft,put_slot _ _ _ _ ht,if_pos rfl]
        exact hv f (by simp) hft
      · exact absurd ⟨f,hf,hft⟩ h2
theorem nodup_inj:∀ {es:List En},(es.map En.i).Nodup→∀ {e f:En},e∈es→f∈es→e.i=f.i→e=f
  | [],_,_,_,he,_,_=>by simp at he
  | g :: es,h,e,f,he,hf,hi=>by
    simp only [List.map_cons,List.nodup_cons] at h
    rcases List.mem_cons.1 he with h1|h1<;>rcases List.mem_cons.1 hf with h2|h2
    · rw [h1,h2]
    · exact absurd (List.mem_map.2 ⟨f,h2,by rw [←hi,h1]⟩) h.1
    · exact absurd (List.mem_map.2 ⟨e,h1,by rw [hi,h2]⟩) h.1
    · exact nodup_inj h.2 h1 h2 hi
theorem wp_move {P:Program} {o:Oper} {a b:Act} {w:World} {K':Act→World→Prop} {Q:Exit→Act→World→Prop} {X:Value→List Sp→World→Prop} (hx:execOp a.eval o=execOp b.eval o) (hd:∀ d,o.dst=some d→d < b.tmps.size)
    (h:o.wp P b w (fun a' w'=>∃ v L',a'=b.put o.dst v∧X v L' w') (fun _ _ _=>False)) (hK:∀ v L' w',X v L' w'→K' (a.put o.dst v) w'):o.wp P a w K' Q:=by
  have key:∀ v0 w',(∃ v L',b.put o.dst v0=b.put o.dst v∧X v L' w')→K' (a.put o.dst v0) w':=by
    rintro v0 w' ⟨v,L',he,hX⟩
    cases hdst:o.dst with
    | none =>
      have:=hK v L' w' hX
      rw [hdst] at this
      exact this
    | some d =>
      rw [hdst] at he
      have h1:=congrArg (fun c:Act=>c.tmps.getD d undef) he
      simp only [put_slot _ _ _ _ (hd d hdst),if_pos] at h1
      rw [h1]
      have:=hK v L' w' hX
      rwa [hdst] at this
  unfold Oper.wp at h ⊢
  rw [hx]
  revert h
  generalize (execOp b.eval o).run P w=r
  intro h
  unfold Oper.upon at h ⊢
  split at h
  · exact key _ _ h
  · exact key _ _ h
  · exfalso
    obtain ⟨v,L',he,_⟩:=h
    have:=congrArg Act.defers he
    rw [putO_defers,putO_defers] at this
    exact absurd (congrArg List.length this) (by simp)
  · refine Calls.mono h ?_
    intro e w' h'
    cases e with
    | returned v=>exact key _ _ h'
    | panicked ch=>exact h'.elim
    | outgrown=>obtain ⟨_,_,hf⟩:=h';exact hf.elim
  · exact Rows.mono h fun v w' h'=>key _ _ h'
  · exact h.elim
  · exact h.elim
theorem keep_nil {c:Cx} {K:List Sp} {w:World} (h:St c.w0 c.M K w):St c.w0 c.M [] w:=by simpa [LK.sel] using h.sel (is:=[]) (by simp)
theorem keep_if {c:Cx} {K:List Sp} {w:World} {b:Bool} (h:St c.w0 c.M K w):St c.w0 c.M (if b=true then [] else K) w:=by split;exact keep_nil h;exact h
theorem mx_unroll {c:Cx} {ops:Array Oper} {T:Env→List Sp→Prop} {K L:List Sp}:∀ {rest:List (Nat×Bool)} {seen:List Nat} {E:Env} {b:Act},Mx c ops T seen rest E K L→Has c.n b E→∃ (qs:List En) (rest':List (Nat×Bool)) (E':Env),
    rest=qs.map (fun e=>(e.i,!e.q))++rest'∧(rest'=[]∨∃ i r,rest'=(i,true) :: r)∧Mx c ops T ((qs.map En.i).reverse++seen) rest' E' K L∧Has c.n (acts qs b) E'∧(∀ e∈qs,e.q=true) ∧
    ∀ p1 e p2,qs=p1++e :: p2→ops[e.i]?=some e.o∧(∀ d,e.o.dst=some d→Nat.blt d c.n=true)∧Has c.n (acts p1 b) e.E∧Out c e.E e.K ops e.o e.v∧e.K=(if pureO e.o=true then [] else K)
  | [],_,E,b,h,hb=>⟨[],[],E,rfl,.inl rfl,h,hb,by simp,fun p1 e p2 hp=>by simp at hp⟩
  | (i,true) :: rest,_,E,b,h,hb=>⟨[],(i,true) :: rest,E,rfl,.inr ⟨i,rest,rfl⟩,h,hb,by simp,fun p1 e p2 hp=>by simp at hp⟩
  | (i,false) :: rest,seen,E,b,h,hb=>by
    obtain ⟨o,d,v,ho,hd,hdn,hout0,hout1,hm⟩:=h
    have hout:Out c E (if pureO o=true then [] else K) ops o v:=by split;exact hout1 ‹_›;exact hout0
    have hb':Has c.n (b.put o.dst v) ((d,v) :: E):=by rw [hd];exact hb.put v hdn
    obtain ⟨qs,rest',E',h1,h2,h3,h4,h5,h6⟩:=mx_unroll hm hb'
    refine ⟨⟨i,true,o,v,E,if pureO o=true then [] else K⟩ :: qs,rest',E',by simp [h1],h2,by simpa using h3,h4,fun e he=>?_,fun p1 e p2 hp=>?_⟩
    · rcases List.mem_cons.1 he with rfl|he
      · rfl
      · exact h5 e he
    · cases p1 with
      | nil =>
        simp at hp
        obtain ⟨rfl,rfl⟩:=hp
        exact ⟨ho,fun d' hd'=>by rw [hd] at hd';cases hd';exact hdn,hb,hout,rfl⟩
      | cons y p1 =>
        simp at hp
        obtain ⟨rfl,rfl⟩:=hp
        exact h6 p1 e p2 rfl
structure MInv (c:Cx) (ops:Array Oper) (ord:List (Nat×Bool)) (T:Env→List Sp→Prop) (a0:Act) (pre:List En) (rest:List (Nat×Bool)) (E:Env) (K L:List Sp) (listed:Array Bool) (a:Act) (w:World):Prop where
  ho:ord=pre.map (fun e=>(e.i,!e.q))++rest
  hr:rest=[]∨∃ i r,rest=(i,true) :: r
  mx:Mx c ops T (pre.map En.i).reverse rest E K L
  st:St c.w0 c.M L w
  kk:Keeps c L K
  has:Has c.n (acts pre a0) E
  en:∀ p1 e p2,pre=p1++e :: p2→ops[e.i]?=some e.o∧(∀ d,e.o.dst=some d→Nat.blt d c.n=true)∧(e.q=true→Has c.n (acts p1 a0) e.E∧Out c e.E e.K ops e.o e.v∧(listed.getD e.i false=false→Keeps c K e.K)∧(pureO e.o=true→e.K=[]))
  size:listed.size=ops.size
  only:∀ i,listed.getD i false=true→∃ e∈pre,e.i=i
  loud:∀ e∈pre,e.q=false→listed.getD e.i false=true
  closed:∀ i j,listed.getD i false=true→waits ops i j=true→listed.getD j false=true
  at1:∀ e∈pre,listed.getD e.i false=true→∀ d,e.o.dst=some d→a.tmps.getD d undef=e.v
  at2:∀ t,(∀ e∈pre,listed.getD e.i false=true→e.o.dst≠some t)→a.tmps.getD t undef=a0.tmps.getD t undef
  tsize:a.tmps.size=a0.tmps.size
  defers:a.defers=a0.defers
section
variable {c:Cx} {ops:Array Oper} {ord:List (Nat×Bool)} {T:Env→List Sp→Prop} {a0:Act} {pre:List En} {rest:List (Nat×Bool)} {E:Env} {K L:List Sp} {listed:Array Bool} {a:Act} {w:World}
theorem MInv.op (I:MInv c ops ord T a0 pre rest E K L listed a w) {e:En} (he:e∈pre):ops[e.i]?=some e.o∧∀ d,e.o.dst=some d→Nat.blt d c.n=true:=by
  obtain ⟨p1,p2,hp⟩:=List.append_of_mem he
  exact ⟨(I.en p1 e p2 hp).1,(I.en p1 e p2 hp).2.1⟩
theorem MInv.nd (I:MInv c ops ord T a0 pre rest E K L listed a w) (G:MixOk ops ord):(pre.map En.i).Nodup:=by
  have:=G.nd
  rw [I.ho,List.map_append] at this
  have h:=(List.nodup_append.1 this).1
  rwa [List.map_map] at h
theorem MInv.looks (I:MInv c ops ord T a0 pre rest E K L listed a w) (G:MixOk ops ord) (hn:a0.tmps.size=c.n) {p1 p2:List En} (hp:pre=p1++p2) {i:Nat} {b:Bool} {tl:List (Nat×Bool)} (hord:ord=p1.map (fun e=>(e.i,!e.q))++(i,b) :: tl)
    {o:Oper} (ho:ops[i]?=some o) (hu:listed.getD i false=false) (hr:i∈Region.ready .any ops listed):∀ t∈o.looksAt ops,a.tmps.getD t undef=(acts p1 a0).tmps.getD t undef:=by
  intro t ht
  have hnd:∀ e∈p1,e.i≠i:=fun e he hei=>by
    have:=G.nd
    rw [hord,List.map_append,List.map_cons,List.map_map] at this
    have h1:=(List.nodup_append.1 this).2.2 e.i (List.mem_map.2 ⟨e,he,rfl⟩) i (by simp)
    exact h1 hei
  have hinj:=I.nd G
  by_cases hex:∃ j p,ops[j]?=some p∧p.dst=some t∧i≠j
  · obtain ⟨j,p,hj,hpt,hne⟩:=hex
    have huniq:∀ e∈pre,e.o.dst=some t→e.i=j:=fun e he het=>by
      by_cases hej:e.i=j
      · exact hej
      · exact absurd het ((G.conf e.i j e.o p t hej (I.op he).1 hj hpt).1)
    rcases (G.conf i j o p t hne ho hj hpt).2 ht with hw|hw
    · have hlj:=ready_waits hr hw
      have hmem:=G.back _ _ _ hord j hw
      rw [List.map_map] at hmem
      obtain ⟨e,he,hej⟩:=List.mem_map.1 hmem
      have hej:e.i=j:=hej
      have hep:e∈pre:=by rw [hp];exact List.mem_append_left _ he
      have heo:e.o=p:=by have:=(I.op hep).1;rw [hej,hj] at this;exact (Option.some.inj this).symm
      have hdst:e.o.dst=some t:=by rw [heo];exact hpt
      have hts:t < a0.tmps.size:=by rw [hn];exact Nat.le_of_ble_eq_true ((I.op hep).2 t hdst)
      rw [I.at1 e hep (by rw [hej];exact hlj) t hdst,acts_at p1 a0 t e.v hts (fun f hf hft=>by
        have hfp:f∈pre:=by rw [hp];exact List.mem_append_left _ hf
        rw [nodup_inj hinj hfp hep (by rw [huniq f hfp hft,hej])]) ⟨e,he,hdst⟩]
    · rw [I.at2 t (fun e he hel het=>by
        have:=I.closed j i (by rw [←huniq e he het];exact hel) hw
        rw [hu] at this;cases this),acts_other p1 a0 t (fun e he het=>by
        have hep:e∈pre:=by rw [hp];exact List.mem_append_left _ he
        have hej:=huniq e hep het
        obtain ⟨q1,q2,hq⟩:=List.append_of_mem he
        have hmem:=G.back (q1.map fun e=>(e.i,!e.q)) (e.i,!e.q) (q2.map (fun e=>(e.i,!e.q))++(i,b) :: tl) (by rw [hord,hq];simp) i (by simpa [hej] using hw)
        rw [List.map_map] at hmem
        obtain ⟨f,hf,hfi⟩:=List.mem_map.1 hmem
        exact hnd f (by rw [hq];exact List.mem_append_left _ hf) hfi)]
  · have hno:∀ e∈pre,e.o.dst=some t→e.i=i:=fun e he het=>by
      by_cases hei:i=e.i
      · exact hei.symm
      · exact absurd ⟨e.i,e.o,(I.op he).1,het,hei⟩ hex
    rw [I.at2 t (fun e he hel het=>by rw [hno e he het,hu] at hel;cases hel),acts_other p1 a0 t (fun e he het=>hnd e he (hno e (by rw [hp];exact List.mem_append_left _ he) het))]
theorem exec_same {a b:Act} {o:Oper} (hns:∀ cs b,o.op≠.select cs b) (hs:a.tmps.size=b.tmps.size) (h:∀ t∈o.looksAt ops,a.tmps.getD t undef=b.tmps.getD t undef) :
    execOp a.eval o=execOp b.eval o∧Region.wanted o (yielded ops a.tmps)=Region.wanted o (yielded ops b.tmps):=by
  have hget:∀ t∈o.looksAt ops,a.tmps[t]?=b.tmps[t]?:=fun t ht=>by
    have h1:=h t ht
    rw [Array.getD_eq_getD_getElem?,Array.getD_eq_getD_getElem?] at h1
    by_cases hlt:t < a.tmps.size
    · have hlt':t < b.tmps.size:=hs ▸ hlt
      rw [Array.getElem?_eq_getElem hlt,Array.getElem?_eq_getElem hlt'] at h1 ⊢
      exact congrArg some h1
    · rw [Array.getElem?_eq_none (Nat.le_of_not_lt hlt),Array.getElem?_eq_none (hs ▸ Nat.le_of_not_lt hlt)]
  refine ⟨execOp_congr o hns (fun x hx=>by
    cases x with
    | tmp t=>exact h t (List.mem_append_left _ (List.mem_filterMap.2 ⟨.tmp t,by simpa using hx,rfl⟩))
    | _=>rfl),?_⟩
  unfold Region.wanted
  cases hg:o.guard with
  | none=>rfl
  | some gw =>
    obtain ⟨g,want⟩:=gw
    have:yielded ops a.tmps g=yielded ops b.tmps g:=by
      unfold yielded
      cases ht:(ops[g]?).bind (·.dst) with
      | none=>rfl
      | some t =>
        simp only [Option.bind_some]
        rw [hget t (by
          unfold Oper.looksAt
          rw [hg]
          exact List.mem_append_right _ (by simp only [ht];simp))]
    simp only [this]
end
theorem mix_sound {c:Cx} {ok:c.Ok} {k:List It} {ops:Array Oper} {ord:List (Nat×Bool)} (hB:mixB ops ord=true) {E:Env} {K L:List Sp} (hK:Keeps c L K) (h:Mx c ops (fun E' L'=>J c k E' L') [] ord E K L) {a0:Act} {w0:World} (ha0:Has c.n a0 E) (hs0:St c.w0 c.M L w0) :
    wpAny c.P .any ops (c.Q k) ops.size (Array.replicate ops.size false) a0 w0:=by
  have G:=mix_of hB
  have main:∀ m pre rest E K L listed a w,MInv c ops ord (fun E' L'=>J c k E' L') a0 pre rest E K L listed a w→((List.range ops.size).filter fun i=>!listed.getD i false).length=m→wpAny c.P .any ops (c.Q k) m listed a w:=by
    intro m
    induction m with
    | zero =>
      intro pre rest E K L listed a w I hm
      have hall:∀ i,i < ops.size→listed.getD i false=true:=fun i hi=>by
        have h1:(List.range ops.size).filter (fun i=>!listed.getD i false)=[]:=List.eq_nil_of_length_eq_zero hm
        simpa using List.filter_eq_nil_iff.1 h1 i (List.mem_range.2 hi)
      have hmx:=I.mx
      have hrest:rest=[]:=by
        rcases I.hr with h1|⟨i,r,h1⟩
        · exact h1
        · exfalso
          rw [h1] at hmx
          obtain ⟨o,ho,_⟩:=hmx
          obtain ⟨e,he,hei⟩:=I.only i (hall i (Array.getElem?_eq_some_iff.1 ho).1)
          have:=G.nd
          rw [I.ho,h1,List.map_append,List.map_cons,List.map_map] at this
          exact (List.nodup_append.1 this).2.2 e.i (List.mem_map.2 ⟨e,he,rfl⟩) i (by simp) hei
      subst hrest
      refine ⟨?_,?_⟩
      · rw [List.eq_nil_iff_forall_not_mem]
        intro i hi
        obtain ⟨hu,o,ho,_⟩:=mem_ready.1 hi
        have hlt:=(Array.getElem?_eq_some_iff.1 ho).1
        rw [getD_tf (by rw [I.size];exact hlt),hall i hlt] at hu
        cases hu
      · have hT:J c k E L:=hmx
        refine hT ok a w ⟨by rw [I.tsize];exact ha0.size,by rw [I.defers];exact ha0.defers,fun t v ht=>?_⟩ I.st
        rw [←I.has.at_ t v ht]
        by_cases hex:∃ e∈pre,e.o.dst=some t
        · obtain ⟨e,he,het⟩:=hex
          have hts:t < a0.tmps.size:=by rw [ha0.size];exact Nat.le_of_ble_eq_true ((I.op he).2 t het)
          rw [I.at1 e he (hall _ (Array.getElem?_eq_some_iff.1 (I.op he).1).1) t het,acts_at pre a0 t e.v hts (fun f hf hft=>by
            by_cases hfe:f.i=e.i
            · rw [nodup_inj (I.nd G) hf he hfe]
            · exact absurd hft ((G.conf f.i e.i f.o e.o t hfe (I.op hf).1 (I.op he).1 het).1)) ⟨e,he,het⟩]
        · rw [I.at2 t (fun e he _ het=>hex ⟨e,he,het⟩),acts_other pre a0 t (fun e he het=>hex ⟨e,he,het⟩)]
    | succ m ih =>
      intro pre rest E K L listed a w I hm
      refine ⟨fun h0=>?_,fun i hr=>?_⟩
      · exfalso
        -- the first in the walk's order that is not listed is ready
        have hex:∃ i,i < ops.size∧listed.getD i false=false:=by
          have h1:(List.range ops.size).filter (fun i=>!listed.getD i false)≠[]:=fun h1=>by rw [h1] at hm;simp at hm
          obtain ⟨i,hi⟩:=List.exists_mem_of_ne_nil _ h1
          obtain ⟨h2,h3⟩:=List.mem_filter.1 hi
          exact ⟨i,List.mem_range.1 h2,by simpa using h3⟩
        obtain ⟨i,hi,hu⟩:=hex
        have first:∀ (q1:List (Nat×Bool)) x q2,ord=q1++x :: q2→x.1 < ops.size→listed.getD x.1 false=false→∃ j,j∈Region.ready .any ops listed:=by
          intro q1
          induction hl:q1.length using Nat.strongRecOn generalizing q1 with
          | _ n ihn =>
            intro x q2 hq hx hux
            by_cases hw:∃ j,waits ops x.1 j=true∧listed.getD j false=false
            · obtain ⟨j,hw,hj⟩:=hw
              have hmem:=G.back q1 x q2 hq j hw
              obtain ⟨y,hy,hyj⟩:=List.mem_map.1 hmem
              obtain ⟨s1,s2,hs⟩:=List.append_of_mem hy
              refine ihn s1.length (by rw [←hl,hs,List.length_append,List.length_cons];omega) s1 rfl y (s2++x :: q2) (by rw [hq,hs];simp) ?_ (by rw [hyj];exact hj)
              exact mixAll hB y (by rw [hq];exact List.mem_append_left _ hy)
            · have hlt:x.1 < listed.size:=by rw [I.size];exact hx
              exact ⟨x.1,waits_ready (Array.getElem?_eq_getElem hx) (by rw [getD_tf hlt];exact hux) fun j hwj=>by
                cases hb:listed.getD j false
                · exact absurd ⟨j,hwj,hb⟩ hw
                · rfl⟩
        obtain ⟨x,hx,hxi⟩:=List.mem_map.1 (G.all i hi)
        obtain ⟨q1,q2,hq⟩:=List.append_of_mem hx
        have hxi:x.1=i:=hxi
        obtain ⟨j,hj⟩:=first q1 x q2 hq (by rw [hxi];exact hi) (by rw [hxi];exact hu)
        rw [h0] at hj;cases hj
      · obtain ⟨hut,o,ho,_⟩:=mem_ready.1 hr
        have hi:i < ops.size:=(Array.getElem?_eq_some_iff.1 ho).1
        have hil:i < listed.size:=by rw [I.size];exact hi
        have hu:listed.getD i false=false:=by rw [←getD_tf hil];exact hut
        have hset:∀ j,(listed.setIfInBounds i true).getD j false=true↔(j=i∨listed.getD j false=true):=fun j=>by
          by_cases e:j=i
          · subst e;simp [getD_set_eq hil]
          · rw [getD_set_ne false (Ne.symm e)];simp [e]
        have hcount:((List.range ops.size).filter fun j=>!(listed.setIfInBounds i true).getD j false).length=m:=by
          have hc:=count_set (List.nodup_range (n:=ops.size)) (p:=fun i=>!listed.getD i false) (p':=fun j=>!(listed.setIfInBounds i true).getD j false) (List.mem_range.2 hi) (by simp [hu]) (fun j hj=>by
            by_cases e:j=i
            · subst e;rw [getD_set_eq hil];simp
            · rw [getD_set_ne false (Ne.symm e)];simp [e])
          omega
        have hclosed:∀ j j',(listed.setIfInBounds i true).getD j false=true→waits ops j j'=true→(listed.setIfInBounds i true).getD j' false=true:=fun j j' hj hw=>by
          rw [hset] at hj ⊢
          rcases hj with rfl|hj
          · exact .inr (ready_waits hr hw)
          · exact .inr (I.closed j j' hj hw)
        have hmono:∀ j,(listed.setIfInBounds i true).getD j false=false→listed.getD j false=false:=fun j hj=>by
          cases hb:listed.getD j false
          · rfl
          · rw [(hset j).2 (.inr hb)] at hj;cases hj
        by_cases hpre:∃ e∈pre,e.i=i
        · -- a quiet one that had been held back
          obtain ⟨e,he,hei⟩:=hpre
          obtain ⟨p1,p2,hp⟩:=List.append_of_mem he
          obtain ⟨heo,hed,heq⟩:=I.en p1 e p2 hp
          have hq:e.q=true:=by
            cases hq:e.q
            · have:=I.loud e he hq;rw [hei,hu] at this;cases this
            · rfl
          obtain ⟨hhas,hout,hkeep,_⟩:=heq hq
          rw [hei,ho] at heo;cases heo
          have hlooks:=I.looks G ha0.size (p2:=e :: p2) hp (i:=i) (b:=!e.q) (tl:=p2.map (fun e=>(e.i,!e.q))++rest) (by rw [I.ho,hp];simp [hei]) ho hu hr
          obtain ⟨hx,hwant⟩:=exec_same (fun cs b=>G.nosel i e.o cs b ho) (by rw [I.tsize,acts_size]) hlooks
          have hst:St c.w0 c.M e.K w:=hkeep (by rw [hei];exact hu) w (I.kk w I.st)
          have hnext:∀ w',Frame w [] w'→wpAny c.P .any ops (c.Q k) m (listed.setIfInBounds i true) (a.put e.o.dst e.v) w':=fun w' hf=>by
            refine ih pre rest E K L _ _ w' ⟨I.ho,I.hr,I.mx,I.st.quiet hf,I.kk,I.has,fun q1 f q2 hq=>⟨(I.en q1 f q2 hq).1,(I.en q1 f q2 hq).2.1,fun h=>⟨((I.en q1 f q2 hq).2.2 h).1,((I.en q1 f q2 hq).2.2 h).2.1,fun hl=>((I.en q1 f q2 hq).2.2 h).2.2.1 (hmono f.i hl),((I.en q1 f q2 hq).2.2 h).2.2.2⟩⟩,by simpa using I.size,fun j hj=>?_,fun f hf' hfq=>(hset _).2 (.inr (I.loud f hf' hfq)),hclosed,fun f hf' hfl d hfd=>?_,fun t ht=>?_,by rw [putO_size];exact I.tsize,by rw [putO_defers];exact I.defers⟩ hcount
            · rcases (hset j).1 hj with rfl|hj
              · exact ⟨e,he,hei⟩
              · exact I.only j hj
            · by_cases hfi:f.i=i
              · have:f=e:=nodup_inj (I.nd G) hf' he (by rw [hfi,hei])
                subst this
                rw [hfd,put_slot _ _ _ _ (by rw [I.tsize,ha0.size];exact Nat.le_of_ble_eq_true (hed d hfd)),if_pos rfl]
              · rw [putO_other _ _ _ _ (fun hd=>absurd hfd ((G.conf f.i i f.o e.o d hfi (I.op hf').1 ho hd).1))]
                exact I.at1 f hf' (((hset _).1 hfl).resolve_left hfi) d hfd
            · rw [putO_other _ _ _ _ (ht e he ((hset _).2 (.inl hei)))]
              exact I.at2 t fun f hf' hfl=>ht f hf' ((hset _).2 (.inr hfl))
          unfold wpOp
          simp only [ho]
          rcases hout ok _ w hhas hst with ⟨hw1,hrun⟩|⟨hw1,hv⟩
          · rw [if_pos (by rw [hwant];exact hw1)]
            refine .inl ?_
            unfold Oper.wp
            rw [hx]
            rcases hrun with hrun|⟨f,args,hrun,hcall⟩
            · rw [hrun];exact hnext w (Frame.refl w _)
            · rw [hrun]
              refine Calls.mono hcall ?_
              rintro e w' ⟨rfl,hs'⟩
              exact hnext w' hs'
          · rw [if_neg (by rw [hwant,hw1];simp),←hv]
            exact hnext w (Frame.refl w _)
        · -- the next loud one
          have hmx:=I.mx
          rcases I.hr with h1|⟨l,r,h1⟩
          · exfalso
            have:=G.all i hi
            rw [I.ho,h1,List.append_nil,List.map_map] at this
            obtain ⟨e,he,hei⟩:=List.mem_map.1 this
            exact hpre ⟨e,he,hei⟩
          have hil':i=l:=by
            have hmem:=G.all i hi
            rw [I.ho,h1,List.map_append,List.map_map] at hmem
            rcases List.mem_append.1 hmem with hmem|hmem
            · obtain ⟨e,he,hei⟩:=List.mem_map.1 hmem
              exact absurd ⟨e,he,hei⟩ hpre
            · simp only [List.map_cons,List.mem_cons] at hmem
              rcases hmem with h2|h2
              · exact h2
              · exfalso
                obtain ⟨x,hx,hxi⟩:=List.mem_map.1 h2
                obtain ⟨q2,q3,hq⟩:=List.append_of_mem hx
                have hxi:x.1=i:=hxi
                obtain ⟨j,hw,hj⟩:=G.since (pre.map fun e=>(e.i,!e.q)) l q2 x q3 (by rw [I.ho,h1,hq])
                rw [hxi] at hw
                obtain ⟨e,he,hej⟩:=I.only j (ready_waits hr hw)
                have hnd:=G.nd
                rw [I.ho,h1,hq,List.map_append,List.map_map] at hnd
                refine (List.nodup_append.1 hnd).2.2 e.i (List.mem_map.2 ⟨e,he,rfl⟩) j ?_ hej
                rcases hj with rfl|hj
                · simp
                · obtain ⟨y,hy,hyj⟩:=List.mem_map.1 hj
                  exact List.mem_map.2 ⟨y,by simp [hy],hyj⟩
          subst hil'
          rw [h1] at hmx
          obtain ⟨o',ho',hdn,hloud⟩:=hmx
          rw [ho] at ho';cases ho'
          have hlooks:=I.looks G ha0.size (p1:=pre) (p2:=[]) (by simp) (i:=i) (b:=true) (tl:=r) (by rw [I.ho,h1]) ho hu hr
          obtain ⟨hx,hwant⟩:=exec_same (fun cs b=>G.nosel i o cs b ho) (by rw [I.tsize,acts_size]) hlooks
          have hnext:∀ v L' w',(∃ K',Keeps c L' K'∧(allB ops i (pre.map En.i).reverse=true∨Keeps c K' K)∧Mx c ops (fun E' L'=>J c k E' L') (i :: (pre.map En.i).reverse) r (extD o.dst v E) K' L')→St c.w0 c.M L' w'→wpAny c.P .any ops (c.Q k) m (listed.setIfInBounds i true) (a.put o.dst v) w':=by
            rintro v L' w' ⟨K',hk1,hk2,hm2⟩ hs'
            have hb':Has c.n (acts (pre++[⟨i,false,o,v,E,K⟩]) a0) (extD o.dst v E):=by
              rw [acts_app]
              simp only [acts]
              cases hd:o.dst with
              | none=>exact I.has
              | some d=>exact I.has.put v (hdn d hd)
            obtain ⟨qs,rest',E',e1,e2,e3,e4,e5,e6⟩:=mx_unroll hm2 hb'
            have hpq:∀ e∈qs,listed.getD e.i false=false:=fun e he=>by
              cases hb:listed.getD e.i false
              · rfl
              · exfalso
                obtain ⟨f,hf,hfe⟩:=I.only e.i hb
                have hnd:=G.nd
                rw [I.ho,h1,e1,List.map_append,List.map_map] at hnd
                refine (List.nodup_append.1 hnd).2.2 f.i (List.mem_map.2 ⟨f,hf,rfl⟩) e.i ?_ hfe
                exact List.mem_map.2 ⟨(e.i,!e.q),by simp;exact .inr (.inl ⟨e,he,rfl,rfl⟩),rfl⟩
            have hqi:∀ e∈qs,e.i≠i:=fun e he hei=>by
              have hnd:=G.nd
              rw [I.ho,h1,e1,List.map_append,List.map_map] at hnd
              have hnd2:=(List.nodup_append.1 hnd).2.1
              simp only [List.map_cons,List.nodup_cons] at hnd2
              exact hnd2.1 (List.mem_map.2 ⟨(e.i,!e.q),by simp;exact .inl ⟨e,he,rfl,rfl⟩,hei⟩)
            refine ih (pre++[⟨i,false,o,v,E,K⟩]++qs) rest' E' K' L' _ _ w' ⟨by rw [I.ho,h1,e1];simp,e2,by simpa using e3,hs',hk1,by rw [acts_app];exact e4,fun p1 e p2 hp=>?_,by simpa using I.size,fun j hj=>?_,fun f hf hfq=>?_,hclosed,fun f hf hfl d hfd=>?_,fun t ht=>?_,by rw [putO_size];exact I.tsize,by rw [putO_defers];exact I.defers⟩ hcount
            · rw [List.append_assoc] at hp
              rcases List.append_eq_append_iff.1 hp with ⟨s,hs1,hs2⟩|⟨s,hs1,hs2⟩
              · cases s with
                | nil =>
                  simp at hs1 hs2
                  obtain ⟨rfl,rfl⟩:=hs2
                  exact ⟨ho,hdn,fun h=>by cases h⟩
                | cons y s =>
                  simp at hs2
                  obtain ⟨rfl,hs2⟩:=hs2
                  obtain ⟨g1,g2,g3,g4,g5⟩:=e6 s e p2 hs2
                  refine ⟨g1,g2,fun _=>⟨?_,g4,fun _ w hw=>by rw [g5];exact keep_if hw,fun hp_=>by rw [g5,if_pos hp_]⟩⟩
                  have:p1=(pre++[⟨i,false,o,v,E,K⟩])++s:=by rw [hs1];simp
                  rw [this,acts_app]
                  exact g3
              · cases s with
                | nil =>
                  simp at hs1 hs2
                  obtain ⟨rfl,rfl⟩:=hs2
                  exact ⟨ho,hdn,fun h=>by cases h⟩
                | cons y s =>
                  simp at hs2
                  obtain ⟨rfl,hs2⟩:=hs2
                  obtain ⟨g1,g2,g3⟩:=I.en p1 e s hs1
                  refine ⟨g1,g2,fun hq=>⟨(g3 hq).1,(g3 hq).2.1,fun hl w hw=>?_,(g3 hq).2.2.2⟩⟩
                  rcases hk2 with hk2|hk2
                  · have hep:e∈pre:=by rw [hs1];simp
                    have h6:=List.all_eq_true.1 hk2 e.i (by simp;exact ⟨e,hep,rfl⟩)
                    rcases Bool.or_eq_true _ _ ▸ h6 with h6|h6p
                    case inr =>
                      have hpu:pureO e.o=true:=by simpa [pureA,g1] using h6p
                      rw [(g3 hq).2.2.2 hpu];exact keep_nil hw
                    exfalso
                    have h7:listed.getD e.i false=true:=by
                      rcases Bool.or_eq_true _ _ ▸ h6 with h8|h8
                      · exact ready_waits hr h8
                      · obtain ⟨m',_,h9⟩:=List.any_eq_true.1 h8
                        simp only [Bool.and_eq_true] at h9
                        rcases Bool.or_eq_true _ _ ▸ h9.2 with h10|h10
                        · exact I.closed m' e.i (ready_waits hr h9.1) h10
                        · obtain ⟨q',_,h11⟩:=List.any_eq_true.1 h10
                          simp only [Bool.and_eq_true] at h11
                          exact I.closed q' e.i (I.closed m' q' (ready_waits hr h9.1) h11.1) h11.2
                    rw [hmono e.i hl] at h7;cases h7
                  · exact (g3 hq).2.2.1 (hmono e.i hl) w (hk2 w hw)
            · rcases (hset j).1 hj with rfl|hj
              · exact ⟨⟨j,false,o,v,E,K⟩,by simp,rfl⟩
              · obtain ⟨f,hf,hfj⟩:=I.only j hj
                exact ⟨f,by simp [hf],hfj⟩
            · rw [hset]
              simp only [List.append_assoc,List.mem_append,List.mem_singleton] at hf
              rcases hf with hf|rfl|hf
              · exact .inr (I.loud f hf hfq)
              · exact .inl rfl
              · rw [e5 f hf] at hfq;cases hfq
            · simp only [List.append_assoc,List.mem_append,List.mem_singleton] at hf
              rcases hf with hf|rfl|hf
              · have hfi:f.i≠i:=fun hfi=>hpre ⟨f,hf,hfi⟩
                rw [putO_other _ _ _ _ (fun hd=>absurd hfd ((G.conf f.i i f.o o d hfi (I.op hf).1 ho hd).1))]
                exact I.at1 f hf (((hset _).1 hfl).resolve_left hfi) d hfd
              · have hfd:o.dst=some d:=hfd
                rw [hfd,put_slot _ _ _ _ (by rw [I.tsize,ha0.size];exact Nat.le_of_ble_eq_true (hdn d hfd)),if_pos rfl]
              · rcases (hset _).1 hfl with h5|h5
                · exact absurd h5 (hqi f hf)
                · rw [hpq f hf] at h5;cases h5
            · rw [putO_other _ _ _ _ (ht ⟨i,false,o,v,E,K⟩ (by simp) ((hset _).2 (.inl rfl)))]
              exact I.at2 t fun f hf hfl=>ht f (by simp [hf]) ((hset _).2 (.inr hfl))
          unfold wpOp
          simp only [ho]
          rcases hloud ok _ w I.has I.st with ⟨hw1,hwp⟩|⟨hw1,hR⟩
          · rw [if_pos (by rw [hwant];exact hw1)]
            refine .inl (wp_move (X:=fun v L' w'=>(∃ K',Keeps c L' K'∧(allB ops i (pre.map En.i).reverse=true∨Keeps c K' K)∧Mx c ops (fun E' L'=>J c k E' L') (i :: (pre.map En.i).reverse) r (extD o.dst v E) K' L')∧St c.w0 c.M L' w') hx (fun d hd=>by rw [acts_size,ha0.size];exact Nat.le_of_ble_eq_true (hdn d hd)) hwp ?_)
            rintro v L' w' ⟨h5,h6⟩
            exact hnext v L' w' h5 h6
          · rw [if_neg (by rw [hwant,hw1];simp)]
            exact hnext undef L w hR I.st
  obtain ⟨qs,rest',E',e1,e2,e3,e4,e5,e6⟩:=mx_unroll h ha0
  have hf:∀ j,(Array.replicate ops.size false).getD j false=false:=fun j=>getD_replicate_false _ j
  refine main _ qs rest' E' K L _ a0 w0 ⟨e1,e2,by simpa using e3,hs0,hK,e4,fun p1 e p2 hp=>?_,by simp,fun i hi=>(by rw [hf] at hi;cases hi),fun e he hq=>(by rw [e5 e he] at hq;cases hq),fun i j hi=>(by rw [hf] at hi;cases hi),fun e _ hi=>(by rw [hf] at hi;cases hi),fun t _=>rfl,rfl,rfl⟩ ?_
  · obtain ⟨g1,g2,g3,g4,g5⟩:=e6 p1 e p2 hp
    exact ⟨g1,g2,fun _=>⟨g3,g4,fun _ w hw=>by rw [g5];exact keep_if hw,fun hp_=>by rw [g5,if_pos hp_]⟩⟩
  · have h1:(List.range ops.size).filter (fun i=>!(Array.replicate ops.size false).getD i false)=List.range ops.size:=List.filter_eq_self.2 fun j _=>by rw [getD_replicate_false];rfl
    rw [h1,List.length_range]
def MxK (c:Cx) (ops:Array Oper) (T:Env→List Sp→Prop) (i:Nat) (seen:List Nat) (rest:List (Nat×Bool)) (E:Env) (K L':List Sp):Prop:=∃ K',Keeps c L' K'∧(allB ops i seen=true∨Keeps c K' K)∧Mx c ops T (i :: seen) rest E K' L'
section
variable {c:Cx} {k:List It} {E:Env} {K L:List Sp} {ops:Array Oper} {o:Op} {ty:TypeId} {d i:Nat} {seen:List Nat} {pos:String} {af:Array Edge} {v:Value} {rest:List (Nat×Bool)} {T:Env→List Sp→Prop}
theorem J.drawMix {id:Nat} {l:List Oper} (ord:List (Nat×Bool)) (is:List Nat) (K:List Sp) (hm:c.P.follows .mixedOrders=true) (hB:mixB l.toArray ord=true) (hn:is.Nodup) (hL:LK.sel L is=K)
    (h:Mx c l.toArray (fun E' L'=>J c k E' L') [] ord E K L):J c (.code (.region id l.toArray true) :: k) E L:=fun ok _ _ ha hs =>
  wp_region_any hm (mix_sound (ok:=ok) hB (fun _ hs=>hL ▸ hs.sel hn) h ha hs.drew')
theorem MxK.go (is js:List Nat) (K':List Sp) {L':List Sp} (hn:is.Nodup) (hL:LK.sel L' is=K') (hn':js.Nodup) (hK:LK.sel K' js=K) (h:Mx c ops T (i :: seen) rest E K' L'):MxK c ops T i seen rest E K L' :=
  ⟨K',fun _ hs=>hL ▸ hs.sel hn,.inr fun _ hs=>hK ▸ hs.sel hn',h⟩
theorem MxK.all (is:List Nat) (K':List Sp) {L':List Sp} (hn:is.Nodup) (hL:LK.sel L' is=K') (hw:allB ops i seen=true) (h:Mx c ops T (i :: seen) rest E K' L'):MxK c ops T i seen rest E K L' :=
  ⟨K',fun _ hs=>hL ▸ hs.sel hn,.inl hw,h⟩
theorem Mx.nil (h:T E L):Mx c ops T seen [] E K L:=h
theorem Mx.q (hi:ops[i]?=some ⟨some d,o,ty,pos,af,none⟩) (hq:Qt c E K o ty v) (hd:Nat.blt d c.n=true) (h:Mx c ops T (i :: seen) rest ((d,v) :: E) K L) (hp:pureO ⟨some d,o,ty,pos,af,none⟩=false:=by rfl):Mx c ops T seen ((i,false) :: rest) E K L :=
  ⟨_,d,v,hi,rfl,hd,fun ok a w ha hs=>.inl ⟨by simp [Region.wanted],.inl (hq ok a w ha hs _ _ _ _)⟩,(fun h_=>by rw [hp] at h_;cases h_),h⟩
theorem Mx.p (hi:ops[i]?=some ⟨some d,o,ty,pos,af,none⟩) (hq:Pu c E o ty v) (hd:Nat.blt d c.n=true) (h:Mx c ops T (i :: seen) rest ((d,v) :: E) K L):Mx c ops T seen ((i,false) :: rest) E K L :=
  ⟨_,d,v,hi,rfl,hd,fun ok a w ha hs=>.inl ⟨by simp [Region.wanted],.inl (hq.qt (L:=K) ok a w ha hs _ _ _ _)⟩,fun _ ok a w ha hs=>.inl ⟨by simp [Region.wanted],.inl (hq.qt (L:=[]) ok a w ha hs _ _ _ _)⟩,h⟩
theorem Mx.gq {j t:Nat} {want b:Bool} (hi:ops[i]?=some ⟨some d,o,ty,pos,af,some (j,want)⟩) (hj:(ops[j]?).bind (·.dst)=some t) (ht:look E t=some (.bool b)) (hb:b=want) (hn:Nat.blt t c.n=true) (hq:Qt c E K o ty v) (hd:Nat.blt d c.n=true)
    (h:Mx c ops T (i :: seen) rest ((d,v) :: E) K L):Mx c ops T seen ((i,false) :: rest) E K L :=
  ⟨_,d,v,hi,rfl,hd,fun ok a w ha hs=>.inl ⟨wanted_yes (j:=j) (t:=t) (want:=want) ha rfl hj (hb ▸ ht) hn,.inl (hq ok a w ha hs _ _ _ _)⟩,fun h_=>absurd h_ (by simp [pureO]),h⟩
theorem Mx.gskip {j t:Nat} {want:Bool} {u:Value} (hi:ops[i]?=some ⟨some d,o,ty,pos,af,some (j,want)⟩) (hj:(ops[j]?).bind (·.dst)=some t) (ht:look E t=some u) (hu:boolOf u≠some want) (hn:Nat.blt t c.n=true) (hd:Nat.blt d c.n=true)
    (h:Mx c ops T (i :: seen) rest ((d,undef) :: E) K L):Mx c ops T seen ((i,false) :: rest) E K L :=
  ⟨_,d,undef,hi,rfl,hd,fun _ _ _ ha _=>.inr ⟨wanted_no (j:=j) (t:=t) (want:=want) ha rfl hj ht hu hn,rfl⟩,fun h_=>absurd h_ (by simp [pureO]),h⟩
theorem Mx.call {f:FuncId} {x:Operand} {xs:List Operand} {ts:Array TypeId} {vs caps:List Value} {RoC:List Sp} {post:Value→List Sp→Prop} (hi:ops[i]?=some ⟨some d,.call { callee:=.value x,args:=xs.toArray,argTypes:=ts },ty,pos,af,none⟩)
    (hcall:∀ args w,(callFunc f args).run c.P w=.ok (.enter f args) w) (hx:ev E x=some (.func (.func f) #[] caps.toArray))
    (hxs:xs.map (ev E)=vs.map some) (ht:Tri c.P f (vs++caps).toArray RoC [] post) (hpost:∀ u L',post u L'→u=v∧L'=[]) (hro:RoOk c K [] RoC) (hd:Nat.blt d c.n=true) (h:Mx c ops T (i :: seen) rest ((d,v) :: E) K L) :
    Mx c ops T seen ((i,false) :: rest) E K L :=
  ⟨_,d,v,hi,rfl,hd,fun ok a w ha hs=>.inl ⟨by simp [Region.wanted],.inr ⟨f,(vs++caps).toArray,by
      have h1:xs.map a.eval=vs:=ha.evs hxs
      simp [execOp,resolve,Deferred.ofValue,invoke,ha.ev hx,h1,hcall],by
      refine (ht w (hro ok w hs) ⟨Frame.refl w _,by simp,by simp,by simp⟩).mono ?_
      rintro e w' ⟨u,L',rfl,hp,hs'⟩
      obtain ⟨rfl,rfl⟩:=hpost u L' hp
      exact ⟨rfl,hs'.fr⟩⟩⟩,fun h_=>absurd h_ (by simp [pureO]),h⟩
theorem Mx.gcall {f:FuncId} {x:Operand} {xs:List Operand} {ts:Array TypeId} {vs caps:List Value} {RoC:List Sp} {post:Value→List Sp→Prop} {j t:Nat} {want b:Bool} (hi:ops[i]?=some ⟨some d,.call { callee:=.value x,args:=xs.toArray,argTypes:=ts },ty,pos,af,some (j,want)⟩)
    (hj:(ops[j]?).bind (·.dst)=some t) (htb:look E t=some (.bool b)) (hb:b=want) (hn:Nat.blt t c.n=true)
    (hcall:∀ args w,(callFunc f args).run c.P w=.ok (.enter f args) w) (hx:ev E x=some (.func (.func f) #[] caps.toArray))
    (hxs:xs.map (ev E)=vs.map some) (ht:Tri c.P f (vs++caps).toArray RoC [] post) (hpost:∀ u L',post u L'→u=v∧L'=[]) (hro:RoOk c K [] RoC) (hd:Nat.blt d c.n=true) (h:Mx c ops T (i :: seen) rest ((d,v) :: E) K L) :
    Mx c ops T seen ((i,false) :: rest) E K L :=
  ⟨_,d,v,hi,rfl,hd,fun ok a w ha hs=>.inl ⟨wanted_yes (j:=j) (t:=t) (want:=want) ha rfl hj (hb ▸ htb) hn,.inr ⟨f,(vs++caps).toArray,by
      have h1:xs.map a.eval=vs:=ha.evs hxs
      simp [execOp,resolve,Deferred.ofValue,invoke,ha.ev hx,h1,hcall],by
      refine (ht w (hro ok w hs) ⟨Frame.refl w _,by simp,by simp,by simp⟩).mono ?_
      rintro e w' ⟨u,L',rfl,hp,hs'⟩
      obtain ⟨rfl,rfl⟩:=hpost u L' hp
      exact ⟨rfl,hs'.fr⟩⟩⟩,fun h_=>absurd h_ (by simp [pureO]),h⟩
theorem Mx.l {R:Value→List Sp→Prop} (hi:ops[i]?=some ⟨some d,o,ty,pos,af,none⟩) (hl:Lo c E L o ty R) (hd:Nat.blt d c.n=true) (h:∀ v L',R v L'→MxK c ops T i seen rest ((d,v) :: E) K L'):Mx c ops T seen ((i,true) :: rest) E K L :=
  ⟨_,hi,fun d' hd'=>by cases hd';exact hd,fun ok a w ha hs=>.inl ⟨by simp [Region.wanted],hl ok a w ha hs _ _ _ _ _ _ fun v L' _ hR hs'=>⟨v,L',rfl,h v L' hR,hs'⟩⟩⟩
theorem Mx.l0 {R:Value→List Sp→Prop} (hi:ops[i]?=some ⟨none,o,ty,pos,af,none⟩) (hl:Lo c E L o ty R) (h:∀ v L',R v L'→MxK c ops T i seen rest E K L'):Mx c ops T seen ((i,true) :: rest) E K L :=
  ⟨_,hi,fun d' hd'=>(by cases hd'),fun ok a w ha hs=>.inl ⟨by simp [Region.wanted],hl ok a w ha hs _ _ _ _ _ _ fun v L' _ hR hs'=>⟨v,L',rfl,h v L' hR,hs'⟩⟩⟩
theorem Pu.indexAddrK {len e g off s:Nat} {m:Int} {x y:Operand} {T':TypeId} (off':Nat) (hT:∀ w,(underlying T').run c.P w=.ok (.array len e) w) (hs:∀ w,(sizeOf e).run c.P w=.ok s w)
    (hx:ev E x=some (.pointer (some ⟨g,off,none⟩))) (hy:ev E y=some (.int .i64 m)) (h0:0≤m) (h1:m < len) (ho:off+m.toNat*s=off'):Pu c E (.indexAddr T' x y) ty (.pointer (some ⟨g,off',none⟩)):=ho ▸ Pu.indexAddrA hT hs hx hy h0 h1
end
end Go.LK
namespace Go.LK
open Go Go.RowKit
section
variable {α:Type}
def getM:List (List Int×α)→List Int→Option α
  | [],_=>none
  | p :: m,k=>if p.1=k then some p.2 else getM m k
def atM:List (List Int×α)→List Int→Nat→Option (Nat×α)
  | [],_,_=>none
  | p :: m,k,i=>if p.1=k then some (i,p.2) else atM m k (i+1)
theorem atM_get (m:List (List Int×α)) (k:List Int):∀ i,(atM m k i).map (·.2)=getM m k:=by
  induction m with
  | nil=>intro i;rfl
  | cons p m ih =>
    intro i
    simp only [atM,getM]
    split
    · rfl
    · exact ih (i+1)
end
structure KT (P:Program) (t:TypeId) (enc:List Int→Value) (n:Nat):Prop where
  check:∀ (w:World) (em:Bool) (k:List Int),k.length=n→(Instr.checkKey em 10000 t (enc k)).run P w=.ok () w
  find:∀ (w:World) (k:List Int) (es:List MapEntry) (m:List (List Int×Value)),es.map (fun e=>(e.key,e.val))=m.map (fun p=>(enc p.1,p.2))→k.length=n→(∀ p∈m,p.1.length=n) →
    (Instr.findKey t (enc k) es).run P w=.ok (atM m k 0) w
  bits:∀ k,k.length=n→Instr.sameBits 10000 (enc k) (enc k)=true
def encI:List Int→Value
  | [a]=>.int .i64 a
  | _=>.int .i64 0
def encR (k:List Int):Value:=.agg (intVals k).toArray
theorem len1 {k:List Int} (h:k.length=1):∃ a,k=[a]:=by
  match k,h with
  | [a],_=>exact ⟨a,rfl⟩
theorem KT.int {P:Program} {t:TypeId} (ht:P.underlying t=some (.int .i64)):KT P t encI 1 where
  check w em k hk:=by
    obtain ⟨a,rfl⟩:=len1 hk
    unfold Instr.checkKey
    simp [run_underlying ht,Result.andThen,encI]
  find w k es m he hk hm:=by
    obtain ⟨a,rfl⟩:=len1 hk
    have key:∀ (es:List MapEntry) (m:List (List Int×Value)) (i:Nat),es.map (fun e=>(e.key,e.val))=m.map (fun p=>(encI p.1,p.2))→(∀ p∈m,p.1.length=1)→Instr.findNow (.int .i64) (.int .i64 a) es i=some (atM m [a] i):=by
      intro es
      induction es with
      | nil =>
        intro m i he _
        have:m=[]:=by simpa using he.symm
        subst this;rfl
      | cons e es ih =>
        intro m i he hm
        cases m with
        | nil=>simp at he
        | cons p m =>
          simp only [List.map_cons,List.cons.injEq,Prod.mk.injEq] at he
          obtain ⟨⟨h1,h2⟩,h3⟩:=he
          obtain ⟨b,hb⟩:=len1 (hm p (by simp))
          simp only [Instr.findNow,h1,hb,encI,Instr.sameNow,if_true,atM]
          by_cases hab:a=b
          · subst hab;simp [h2]
          · have h4:(a == b)=false:=by simpa using hab
            have h5:¬[b]=[a]:=by simpa using fun e=>hab e.symm
            rw [h4,if_neg h5]
            exact ih m (i+1) h3 fun q hq=>hm q (by simp [hq])
    have h1:=key es m 0 he hm
    simp only [Instr.findKey,Sem.run_bind,run_underlying ht,Result.andThen_ok,encI,h1,Sem.run_pure]
  bits k hk:=by
    obtain ⟨a,rfl⟩:=len1 hk
    simp [encI,Instr.sameBits]
theorem run_checkFields {P:Program} {w:World} {em:Bool} {d:Nat} (as:List Int):∀ (fs:List Field) (i:Nat),FInt P i fs→i+fs.length=as.length →
    (forIn (m := Sem) fs PUnit.unit fun f (_ : PUnit) => if f.name ≠ "_" then (part f.type (intVals as).toArray f.offset >>= fun x => Instr.checkKey em (d + 1) f.type x >>= fun _ => pure (ForInStep.yield PUnit.unit)) else pure (ForInStep.yield PUnit.unit)).run P w = .ok PUnit.unit w
  | [],i,_,_=>by simp
  | f :: fs,i,hf,ha=>by
    obtain ⟨ho,hn,hu,hr⟩:=hf
    have ih:=run_checkFields (P:=P) (w:=w) (em:=em) (d:=d) as fs (i+1) hr (by simp at ha;omega)
    have hla:i < as.length:=by simp at ha;omega
    have hn' : ¬ f.name = "_" := by simpa using hn
    have hag:∀ w,(isAgg f.type).run P w=.ok false w:=fun w=>by simp [isAgg,run_underlying hu]
    have pa:(part f.type (intVals as).toArray f.offset).run P w=.ok (.int .i64 as[i]) w:=by simp [part,hag,ho,intVals,hla]
    have hc:(Instr.checkKey em (d+1) f.type (.int .i64 as[i])).run P w=.ok () w:=by
      unfold Instr.checkKey
      simp [run_underlying hu,Result.andThen]
    rw [List.forIn_cons]
    simp only [ne_eq,hn',not_false_eq_true,if_true,Sem.run_bind,pa,Result.andThen_ok,hc,Sem.run_pure,ih]
theorem KT.str {P:Program} {t:TypeId} {fs:Array Field} (ht:P.underlying t=some (.struct fs)) (hp:P.stoodInHeld t=false) (hf:FInt P 0 fs.toList):KT P t encR fs.size where
  check w em k hk:=by
    have h:=run_checkFields (P:=P) (w:=w) (em:=em) (d:=9998) k fs.toList 0 hf (by simpa using hk.symm)
    unfold Instr.checkKey
    simp only [Sem.run_bind,run_underlying ht,Result.andThen_ok,encR]
    rw [←Array.forIn_toList]
    exact (congrArg (fun r:Result PUnit=>r.andThen fun a w'=>(pure ():Sem Unit).run P w') h).trans rfl
  find w k es m he hk hm:=by
    have asking:∀ (es:List MapEntry) (m:List (List Int×Value)) (i:Nat),es.map (fun e=>(e.key,e.val))=m.map (fun p=>(encR p.1,p.2))→(∀ p∈m,p.1.length=fs.size)→(Instr.findAsking t (encR k) es i).run P w=.ok (atM m k i) w:=by
      intro es
      induction es with
      | nil =>
        intro m i he _
        have:m=[]:=by simpa using he.symm
        subst this;rfl
      | cons e es ih =>
        intro m i he hm
        cases m with
        | nil=>simp at he
        | cons p m =>
          simp only [List.map_cons,List.cons.injEq,Prod.mk.injEq] at he
          obtain ⟨⟨h1,h2⟩,h3⟩:=he
          have h4:=run_eqI k p.1 ht hp hf hk (hm p (by simp)) w
          have h5:(Op.equal t (encR k) (encR p.1)).run P w=.ok (decide (k=p.1)) w:=h4
          simp only [Instr.findAsking,h1,Sem.run_bind,h5,Result.andThen_ok,atM,Sem.run_ite]
          by_cases hkp:k=p.1
          · subst hkp;simp [h2]
          · have h6:¬p.1=k:=fun e=>hkp e.symm
            simp only [hkp,h6,decide_false,if_false,Bool.false_eq_true]
            exact ih m (i+1) h3 fun q hq=>hm q (by simp [hq])
    cases es with
    | nil =>
      have:m=[]:=by simpa using he.symm
      subst this
      simp [Instr.findKey,run_underlying ht,Result.andThen,Instr.findNow,atM]
    | cons e es =>
      cases m with
      | nil=>simp at he
      | cons p m =>
        have h1:Instr.findNow (.struct fs) (encR k) (e :: es) 0=none:=by simp [Instr.findNow,Instr.sameNow]
        simp only [Instr.findKey,Sem.run_bind,run_underlying ht,Result.andThen_ok,h1]
        exact asking _ _ 0 he hm
  bits k hk:=by
    simp only [encR,Instr.sameBits,intVals]
    simp [List.all_map,List.zip_map',Function.comp_def]
    intro a _
    simp [Instr.sameBits]
def mp (b:Nat) (enc:List Int→Value) (n:Nat) (m:List (List Int×Value)):Sp where
  foot:=[b]
  holds w:=(∃ arr clock,w.heap[b]?=some (.map arr clock)∧arr.toList.map (fun e=>(e.key,e.val))=m.map (fun p=>(enc p.1,p.2)))∧∀ p∈m,p.1.length=n
  lt w h k hk:=by
    obtain ⟨⟨arr,clock,h1,_⟩,_⟩:=h
    simp at hk;subst hk
    exact (Array.getElem?_eq_some_iff.1 h1).1
  loc w w' hw h:=by
    obtain ⟨⟨arr,clock,h1,h2⟩,h3⟩:=h
    exact ⟨⟨arr,clock,by rw [hw b (by simp)];exact h1,h2⟩,h3⟩
section
variable {c:Cx} {E:Env} {L:List Sp} {ty T k e:TypeId} {x y z:Operand} {b n:Nat} {enc:List Int→Value} {m:List (List Int×Value)}
theorem run_lookM {P:Program} {w:World} {key:List Int} {zv:Value} (hT:P.underlying T=some (.map k e)) (hk:KT P k enc n) (hz:∀ w,(zeroValue e).run P w=.ok zv w) (hm:(mp b enc n m).holds w) (hl:key.length=n) (ok:Bool) :
    (Instr.lookup T (.map (some b)) (enc key) ok).run P w=.ok (if ok then .tuple #[(getM m key).getD zv,.bool (getM m key).isSome] else (getM m key).getD zv) w:=by
  obtain ⟨⟨arr,clock,h1,h2⟩,h3⟩:=hm
  have hf:=hk.find w key arr.toList m h2 hl h3
  have hg:(getObj b).run P w=.ok (.map arr clock) w:=by simp [getObj,Sem.run,h1]
  have ha:=atM_get m key 0
  simp only [Instr.lookup,Sem.run_bind,run_underlying hT,Result.andThen_ok,hg,hk.check w _ key hl,hf,Sem.run_pure]
  cases hat:atM m key 0 with
  | none=>rw [hat] at ha;simp [←ha,hz]
  | some p=>obtain ⟨i,v⟩:=p;rw [hat] at ha;simp [←ha]
theorem Qt.look {key:List Int} {zv V:Value} (i:Nat) (hT:c.P.underlying T=some (.map k e)) (hk:KT c.P k enc n) (hz:∀ w,(zeroValue e).run c.P w=.ok zv w) (hx:ev E x=some (.map (some b))) (hy:ev E y=some V) (hV:V=enc key) (hi:L[i]?=some (mp b enc n m)) (hl:key.length=n) :
    Qt c E L (.lookup T x y true) ty (.tuple #[(getM m key).getD zv,.bool (getM m key).isSome]):=fun ok a w ha hs _ _ _ _=>by
  have h1:=run_lookM (w:=w) hT hk hz (hs.at_ _ (List.mem_of_getElem? hi)) hl true
  subst hV
  simp [execOp,ha.ev hx,ha.ev hy,h1]
theorem Mx.one {ops:Array Oper} {T':Env→List Sp→Prop} {seen:List Nat} {rest:List (Nat×Bool)} {K:List Sp} {V:Value} {sz j:Nat} {els:List (List Value)} {o':Oper} (hi:ops[j]?=some o') (hd:∀ d,o'.dst=some d→Nat.blt d c.n=true) (hs:Src c L V sz els) (h:V.oneCell'=true→Mx c ops T' seen ((j,true) :: rest) E K L):Mx c ops T' seen ((j,true) :: rest) E K L :=
  ⟨o',hi,hd,fun ok a w ha hst=>by
    obtain ⟨o,ho,_,hl⟩:=h (elt_one (hs ok w hst))
    rw [hi] at ho;cases ho
    exact hl ok a w ha hst⟩
end
end Go.LK
namespace Go.LK
open Go Go.RowKit
end Go.LK
