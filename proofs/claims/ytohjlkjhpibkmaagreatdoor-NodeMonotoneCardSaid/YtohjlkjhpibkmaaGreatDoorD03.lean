/-
  Rules and plain laws that the walks use.
-/
import Derived.Test.YtohjlkjhpibkmaaGreatDoorD02
import Derived.RangeFuncKeeps
import Derived.RangeFuncLeaves
import Derived.RangeFuncCalls
import Derived.TacticsIn
import Derived.RangeFuncRecord
import Derived.Sort.Grow
import Derived.Deep.Draws
import Derived.Lib.ConvBytes
import Derived.Lib.LaidTab
import Derived.Lib.ItoaNum
import Derived.Lib.ParseIntBTie
import Derived.Lib.IndexMore
import Derived.Laws.BytesString
import Derived.Lib.Split
import Derived.Test.YtohjlkjhpibkmaaGreatDoorD01
import Derived.Laws.RangeAny
import Derived.LaidLaws
import Derived.ChangeSame
import Derived.Lib.Builder
import Derived.Lib.AppendStr
import Derived.Lib.UnsafeStr
import Derived.Laws.Externs
import Derived.Laws.Pointers
import Derived.Maps.RangeRun
set_option linter.unusedSimpArgs false
set_option linter.unusedVariables false
namespace Go.LK
open Go Go.RowKit
abbrev FW (ro:Option Nat):Fence:={ Fence.wide with round:=ro }
structure HasD (n:Nat) (ds:List Deferred) (a:Act) (E:Env):Prop where
  size:a.tmps.size=n
  defers:a.defers=ds
  at_:∀ t v,look E t=some v→a.tmps.getD t undef=v
def bare (a:Act):Act:={ a with defers:=[] }
theorem HasD.bare {n:Nat} {ds:List Deferred} {a:Act} {E:Env} (h:HasD n ds a E):Has n (bare a) E:=⟨h.size,rfl,h.at_⟩
theorem bare_eval (a:Act):(bare a).eval=a.eval:=by
  funext x
  cases x<;>rfl
theorem HasD.ev {n:Nat} {ds:List Deferred} {a:Act} {E:Env} {x:Operand} {v:Value} (h:HasD n ds a E) (hx:ev E x=some v):a.eval x=v:=by
  rw [←bare_eval];exact h.bare.ev hx
theorem HasD.put {n d:Nat} {ds:List Deferred} {a:Act} {E:Env} (h:HasD n ds a E) (v:Value) (hd:Nat.blt d n=true):HasD n ds (a.put (some d) v) ((d,v) :: E):=by
  have:=h.bare.put v hd
  exact ⟨this.size,h.defers,this.at_⟩
theorem HasD.sub {n:Nat} {ds:List Deferred} {a:Act} {E E':Env} (h:HasD n ds a E) (hs:Sub E' E):HasD n ds a E':=⟨h.size,h.defers,(h.bare.sub hs).at_⟩
theorem wpIn_move {P:Program} {ro:Option Nat} {m:Nat} {o:Oper} {a b:Act} {w:World} {K':Act→World→Prop} {Q:Exit→Act→World→Prop} {X:Value→List Sp→World→Prop} (hnd:∀ c,o.op≠.defer c) (hx:execOp a.eval o=execOp b.eval o) (hd:∀ d,o.dst=some d→d < b.tmps.size)
    (h:o.wp P b w (fun a' w'=>∃ v L',a'=b.put o.dst v∧X v L' w') (fun _ _ _=>False)) (hK:∀ v L' w',X v L' w'→K' (a.put o.dst v) w'):o.wpIn (FW ro) m P a w K' Q:=by
  have key:∀ v0 w',(∃ v L',b.put o.dst v0=b.put o.dst v∧X v L' w')→K' (a.put o.dst v0) w':=by
    rintro v0 w' ⟨v,L',he,hX⟩
    cases hdst:o.dst with
    | none =>
      have:=hK v L' w' hX
      rw [hdst] at this
      exact this
    | some d =>
      rw [hdst] at he
      have h1:=congrArg (fun c:Act=>c.tmps.getD d undef) he
      simp only [put_slot _ _ _ _ (hd d hdst),if_pos] at h1
      rw [h1]
      have:=hK v L' w' hX
      rwa [hdst] at this
  refine ⟨fun _ _=>trivial,?_⟩
  rw [Oper.semAt_eq ro _ o hnd,hx]
  unfold Oper.wp at h
  revert h
  generalize (execOp b.eval o).run P w=r
  intro h
  unfold Oper.upon at h
  split at h
  · exact key _ _ h
  · exact key _ _ h
  · exfalso
    obtain ⟨v,L',he,_⟩:=h
    have:=congrArg Act.defers he
    rw [putO_defers,putO_defers] at this
    exact absurd (congrArg List.length this) (by simp)
  · rw [Oper.uponIn_enter]
    refine ⟨fun h=>(by cases h),?_⟩
    refine CallsIn.mono (show CallsIn (FW ro) (m-1) P _ _ _ _ from callsIn_wide.2 h) ?_
    intro e w' h'
    cases e with
    | returned v=>exact key _ _ h'
    | panicked ch=>exact h'.elim
    | outgrown=>obtain ⟨_,_,hf⟩:=h';exact hf.elim
  · rw [Oper.uponIn_row]
    refine ⟨fun h=>(by cases h),fun c cs _=>?_⟩
    obtain ⟨v,w',h1,h2⟩:=h c cs
    exact ⟨v,w',key _ _ h1,stepsIn_wide.2 h2⟩
  · exact h.elim
  · exact h.elim
structure Ci where
  ro:Option Nat
  dp:Nat
  ds:List Deferred
  R0:Exit→Act→World→Prop
def QI (P:Program) (i:Ci):List It→Exit→Act→World→Prop
  | []=>i.R0
  | .code x :: k=>Exit.then (x.wpIn (FW i.ro) i.dp P (QI P i k)) (QI P i k)
  | .blk id :: k=>Exit.inBlock id (QI P i k)
  | .scp :: k=>Exit.noGoto (QI P i k)
  | .lp I :: k=>Exit.then I (QI P i k)
def JI (c:Cx) (i:Ci) (k:List It) (E:Env) (L:List Sp):Prop:=c.Ok→∀ a w,HasD c.n i.ds a E→St c.w0 c.M L w→QI c.P i k .normal a w
def OI (c:Cx) (i:Ci) (ops:Array Oper) (rest:List Oper) (k:List It) (E:Env) (L:List Sp):Prop :=
  c.Ok→∀ a w,HasD c.n i.ds a E→St c.w0 c.M L w→wpListIn (FW i.ro) i.dp c.P ops (QI c.P i k) rest a w
section
variable {c:Cx} {i:Ci} {k:List It} {E:Env} {L:List Sp}
theorem JI.seq {x y:Code} (h:JI c i (.code x :: .code y :: k) E L):JI c i (.code (.seq x y) :: k) E L:=fun ok a w ha hs=>wpIn_seq (h ok a w ha hs)
theorem JI.block {id:Nat} {x:Code} (h:JI c i (.code x :: .blk id :: k) E L):JI c i (.code (.block id x) :: k) E L:=fun ok a w ha hs=>wpIn_block (h ok a w ha hs)
theorem JI.blk {id:Nat} (h:JI c i k E L):JI c i (.blk id :: k) E L:=fun ok a w ha hs=>h ok a w ha hs
theorem JI.skip (h:JI c i k E L):JI c i (.code .skip :: k) E L:=fun ok a w ha hs=>wpIn_skip (h ok a w ha hs)
theorem JI.condT {x:Operand} {b:Bool} {t f:Code} (hx:ev E x=some (.bool b)) (hb:b=true) (ht:JI c i (.code t :: k) E L):JI c i (.code (.cond x t f) :: k) E L:=fun ok a w ha hs =>
  wpIn_cond_true (by rw [ha.ev hx,hb]) (ht ok a w ha hs)
theorem JI.condF {x:Operand} {b:Bool} {t f:Code} (hx:ev E x=some (.bool b)) (hb:b=false) (hf:JI c i (.code f :: k) E L):JI c i (.code (.cond x t f) :: k) E L:=fun ok a w ha hs =>
  wpIn_cond_false (by rw [ha.ev hx,hb]) (hf ok a w ha hs)
theorem JI.cond {x:Operand} {b:Bool} {t f:Code} (hx:ev E x=some (.bool b)) (ht:b=true→JI c i (.code t :: k) E L) (hf:b=false→JI c i (.code f :: k) E L) :
    JI c i (.code (.cond x t f) :: k) E L:=fun ok a w ha hs=>wpIn_cond_split (ha.ev hx) (fun e=>ht e ok a w ha hs) (fun e=>hf e ok a w ha hs)
theorem JI.region {id:Nat} {l:List Oper} (h:OI c i l.toArray l k E L):JI c i (.code (.region id l.toArray false) :: k) E L:=fun ok a w ha hs=>wpIn_region_lit (h ok a w ha hs)
theorem OI.nil {ops:Array Oper} (h:JI c i k E L):OI c i ops [] k E L:=fun ok a w ha hs=>h ok a w ha hs
theorem JI.trim (E':Env) (hs:Sub E' E) (h:JI c i k E' L):JI c i k E L:=fun ok a w ha hst=>h ok a w (ha.sub hs) hst
theorem JI.sel (is:List Nat) (L':List Sp) (hn:is.Nodup) (hL:LK.sel L is=L') (h:JI c i k E L'):JI c i k E L:=fun ok a w ha hst=>h ok a w ha (hL ▸ hst.sel hn)
variable {ops:Array Oper} {rest:List Oper} {o:Op} {ty:TypeId} {d:Nat} {pos:String} {af:Array Edge} {v:Value}
def noDefer:Op→Bool|.defer _=>false|_=>true
theorem noDefer_of {o:Op} (h:noDefer o=true):∀ c,o≠.defer c:=fun c e=>by subst e;cases h
theorem OI.l {R:Value→List Sp→Prop} (hl:Lo c E L o ty R) (hd:Nat.blt d c.n=true) (h:∀ v L',R v L'→OI c i ops rest k ((d,v) :: E) L') (hnd:noDefer o=true:=by rfl):OI c i ops (⟨some d,o,ty,pos,af,none⟩ :: rest) k E L:=fun ok a w ha hs =>
  wpListIn_plain rfl fun _ hK=>wpIn_move (b:=bare a) (X:=fun v L' w'=>R v L'∧St c.w0 c.M L' w') (noDefer_of hnd) (by rw [bare_eval]) (fun d' hd'=>by cases hd';rw [ha.bare.size];exact Nat.le_of_ble_eq_true hd)
    (hl ok (bare a) w ha.bare hs _ _ _ _ _ _ fun v L' _ hR hs'=>⟨v,L',rfl,hR,hs'⟩) fun v L' w' hX=>hK _ _ (h v L' hX.1 ok _ w' (ha.put v hd) hX.2)
theorem OI.l0 {R:Value→List Sp→Prop} (hl:Lo c E L o ty R) (h:∀ v L',R v L'→OI c i ops rest k E L') (hnd:noDefer o=true:=by rfl):OI c i ops (⟨none,o,ty,pos,af,none⟩ :: rest) k E L:=fun ok a w ha hs =>
  wpListIn_plain rfl fun _ hK=>wpIn_move (b:=bare a) (X:=fun v L' w'=>R v L'∧St c.w0 c.M L' w') (noDefer_of hnd) (by rw [bare_eval]) (fun d' hd'=>by cases hd')
    (hl ok (bare a) w ha.bare hs _ _ _ _ _ _ fun v L' _ hR hs'=>⟨v,L',rfl,hR,hs'⟩) fun v L' w' hX=>hK _ _ (h v L' hX.1 ok _ w' ha hX.2)
theorem OI.q (hq:Qt c E L o ty v) (hd:Nat.blt d c.n=true) (h:OI c i ops rest k ((d,v) :: E) L) (hnd:noDefer o=true:=by rfl):OI c i ops (⟨some d,o,ty,pos,af,none⟩ :: rest) k E L :=
  OI.l (R:=fun u L'=>u=v∧L'=L) (fun ok a w ha hs d pos af g K Q hK=>wp_loud (hq ok a w ha hs _ _ _ _) (hK v L w ⟨rfl,rfl⟩ hs)) hd (by rintro _ _ ⟨rfl,rfl⟩;exact h) hnd
theorem OI.p (hq:Pu c E o ty v) (hd:Nat.blt d c.n=true) (h:OI c i ops rest k ((d,v) :: E) L) (hnd:noDefer o=true:=by rfl):OI c i ops (⟨some d,o,ty,pos,af,none⟩ :: rest) k E L:=OI.q hq.qt hd h hnd
theorem QI_exit {P:Program} {i:Ci} {id:Nat} {a:Act} {w:World}:∀ {k k':List It},pop id k=some k'→QI P i k' .normal a w→QI P i k (.exit id) a w
  | [],_,h,_=>by simp [pop] at h
  | .blk j :: k,k',h,hq=>by
    simp only [pop] at h
    simp only [QI,Exit.inBlock]
    cases hb:Nat.beq j id
    · rw [hb] at h
      have hne:¬id=j:=fun e=>by subst e;simp at hb
      have:=QI_exit (i:=i) (a:=a) (w:=w) (by simpa using h) hq
      simpa [hne] using this
    · rw [hb] at h
      have he:j=id:=Nat.eq_of_beq_eq_true hb
      subst he
      simp at h;subst h
      simpa using hq
  | .code x :: k,k',h,hq=>QI_exit (k:=k) (by simpa [pop] using h) hq
  | .scp :: k,k',h,hq=>QI_exit (k:=k) (by simpa [pop] using h) hq
  | .lp I :: k,k',h,hq=>QI_exit (k:=k) (by simpa [pop] using h) hq
theorem JI.exit {id:Nat} (k':List It) (hp:pop id k=some k') (h:JI c i k' E L):JI c i (.code (.exit id) :: k) E L:=fun ok a w ha hs=>wpIn_exit (QI_exit hp (h ok a w ha hs))
theorem QI_ret {P:Program} {i:Ci} {a:Act} {w:World}:∀ {k:List It},i.R0 .ret a w→QI P i k .ret a w
  | [],h=>h
  | .blk _ :: k,h=>QI_ret (k:=k) h
  | .code _ :: k,h=>QI_ret (k:=k) h
  | .scp :: k,h=>QI_ret (k:=k) h
  | .lp _ :: k,h=>QI_ret (k:=k) h
theorem JI.ret (h:c.Ok→∀ a w,HasD c.n i.ds a E→St c.w0 c.M L w→i.R0 .ret a w):JI c i (.code .ret :: k) E L:=fun ok a w ha hs=>wpIn_ret (QI_ret (h ok a w ha hs))
theorem JI.done (h:c.Ok→∀ a w,HasD c.n i.ds a E→St c.w0 c.M L w→i.R0 .normal a w):JI c i [] E L:=h
def invI {X:Type} (c:Cx) (i:Ci) (φ:X→Prop) (EE:X→Env) (LL:X→List Sp) (μ:X→Nat) (m:Nat) (a:Act) (w:World):Prop :=
  ∃ x,φ x∧μ x < m∧HasD c.n i.ds a (EE x)∧St c.w0 c.M (LL x) w
theorem JI.loop {X:Type} (φ:X→Prop) (EE:X→Env) (LL:X→List Sp) (μ:X→Nat) {x:Code} (x0:X) (h0:φ x0) (hE:Sub (EE x0) E) (is:List Nat) (hn:is.Nodup) (hL:LK.sel L is=LL x0)
    (round:∀ y,φ y→JI c i (.code x :: .lp (invI c i φ EE LL μ (μ y)) :: k) (EE y) (LL y)):JI c i (.code (.loop x) :: k) E L:=fun ok a w ha hs=>by
  have hst:St c.w0 c.M (LL x0) w:=hL ▸ hs.sel hn
  have hh:=ha.sub hE
  show (Code.loop x).wpIn (FW i.ro) i.dp c.P (QI c.P i k) a w
  intro b kk cs hro hb hr
  have key:∀ m y a w,μ y=m→φ y→HasD c.n i.ds a (EE y)→St c.w0 c.M (LL y) w →
      ∃ e a' w',QI c.P i k e a' w'∧ArrivesIn (Machine.fenced c.P (FW i.ro)) c.P (lone (b.atR a (.code x :: .inLoop x :: kk)) cs w) b kk cs e a' w':=by
    intro m
    induction m using Nat.strongRecOn with
    | _ m ih =>
      intro y a w hm hy ha hs
      have hbody:x.wpIn (FW i.ro) i.dp c.P (QI c.P i (.lp (invI c i φ EE LL μ (μ y)) :: k)) a w:=round y hy ok a w ha hs
      obtain ⟨e,a₁,w₁,hq,harr⟩:=hbody b (.inLoop x :: kk) cs hro hb hr
      cases e with
      | normal =>
        obtain ⟨y',hy',hlt,ha',hs'⟩:=hq
        obtain ⟨e₂,a₂,w₂,hq₂,harr₂⟩:=ih (μ y') (hm ▸ hlt) y' a₁ w₁ rfl hy' ha' hs'
        exact ⟨e₂,a₂,w₂,hq₂,.of_steps (StepsIn.trans harr (.one (fenced_calm hb hr rfl) stepR_inLoop)) harr₂⟩
      | exit id=>exact ⟨_,a₁,w₁,hq,.pass (x:=.inLoop x) rfl (fun _ _=>.inl (by simp)) harr⟩
      | goto l=>exact ⟨_,a₁,w₁,hq,.pass (x:=.inLoop x) rfl (fun _ _=>.inl (by simp)) harr⟩
      | ret=>exact ⟨_,a₁,w₁,hq,.pass (x:=.inLoop x) rfl (fun _ _=>.inl (by simp)) harr⟩
      | panic ch=>exact ⟨_,a₁,w₁,hq,.pass (x:=.inLoop x) rfl (fun _ _=>.inl (by simp)) harr⟩
      | outgrown=>exact ⟨_,a₁,w₁,hq,.pass (x:=.inLoop x) rfl (fun _ _=>.inl (by simp)) harr⟩
  obtain ⟨e,a',w',hq,harr⟩:=key (μ x0) x0 a w rfl h0 hh hst
  exact ⟨e,a',w',hq,.of_steps (.one (fenced_calm hb hr rfl) stepR_loop) harr⟩
theorem JI.lp {X:Type} {φ:X→Prop} {EE:X→Env} {LL:X→List Sp} {μ:X→Nat} {m:Nat} (y:X) (hφ:φ y) (hm:μ y < m) (hE:Sub (EE y) E) (is:List Nat) (hn:is.Nodup) (hL:LK.sel L is=LL y) :
    JI c i (.lp (invI c i φ EE LL μ m) :: k) E L:=fun _ _ _ ha hs=>⟨y,hφ,hm,ha.sub hE,hL ▸ hs.sel hn⟩
end
end Go.LK
namespace Go.LK
open Go Go.RowKit
def loopRec (fn:FuncId) (tmps:Array Value) (ps:Array Tmp) (assign body:Code) (D:Nat) (st:LoopState) (pe:Option Code):Loop:={ state:=st,pending:=pe,fn,tmps,params:=ps,assign,body,defers:=D }
theorem St.putObj {w0 w:World} {M:List Nat} {L:List Sp} (h:St w0 M L w) {i l:Nat} {o o':Obj} (hi:L[i]?=some (blk l o)):St w0 M (L.set i (blk l o')) (w.putObj l o'):=by
  have hl:w.heap[l]?=some o:=h.at_ _ (List.mem_of_getElem? hi)
  have hlt:=(Array.getElem?_eq_some_iff.1 hl).1
  refine h.set hi ⟨rfl,rfl,rfl,by simp,fun k _ hk=>?_⟩ (World.putObj_heap_same hlt) (fun k hk=>.inl hk)
  exact World.putObj_heap_other (fun e=>hk (by simp [blk,e]))
def envP:List Tmp→List Value→Env→Env
  | p :: ps,v :: vs,E=>envP ps vs ((p,v) :: E)
  | _,_,E=>E
theorem has_params {n:Nat}:∀ {ps:List Tmp} {vs:List Value} {t:Array Value} {E:Env},(∀ p∈ps,Nat.blt p n=true)→HasD n [] { tmps:=t,defers:=[] } E→vs.length=ps.length →
    HasD n [] { tmps:=(ps.zip vs).foldl (fun t (p,v)=>t.setIfInBounds p v) t,defers:=[] } (envP ps vs E)
  | [],[],_,_,_,h,_=>h
  | [],_ :: _,_,_,_,_,hl=>by simp at hl
  | _ :: _,[],_,_,_,_,hl=>by simp at hl
  | p :: ps,v :: vs,t,E,hb,h,hl=>by
    have h1:=h.put v (hb p (by simp))
    exact has_params (ps:=ps) (vs:=vs) (fun q hq=>hb q (by simp [hq])) h1 (by simpa using hl)
def JK (c:Cx) {X:Type} (rec:LoopState→Option Code→Loop) (l D:Nat) (φ:Nat→X→Prop) (LL:X→List Sp) (k:Nat) (W:World):Prop :=
  ∃ y,φ k y∧St c.w0 c.M (blk l (.loop (rec .ready none)) :: blk D (.deferred (some [])) :: LL y) W
def JX (c:Cx) {Z:Type} (rec:LoopState→Option Code→Loop) (l D:Nat) (ψ:Code→Z→Prop) (LX:Z→List Sp) (W:World):Prop :=
  ∃ x z,ψ x z∧St c.w0 c.M (blk l (.loop (rec .done (some x))) :: blk D (.deferred (some [])) :: LX z) W
def RE (c:Cx) {X Z:Type} (rec:LoopState→Option Code→Loop) (l D:Nat) (φ:Nat→X→Prop) (LL:X→List Sp) (ψ:Code→Z→Prop) (LX:Z→List Sp) (k:Nat):Exit→Act→World→Prop :=
  roundPost c.P l fun e W'=>(e=.returned (.bool true)∧JK c rec l D φ LL (k+1) W')∨(e=.returned (.bool false)∧JX c rec l D ψ LX W')
def BeginI (c:Cx) (i:Ci) (l:Nat) (body:Code) (a:Act) (w:World):Prop:=∃ w2,(Instr.beginRound l).run c.P w=.ok () w2∧body.wpIn (FW i.ro) i.dp c.P i.R0 a w2
theorem St.tail {w0 w:World} {M:List Nat} {A:Sp} {L:List Sp} (h:St w0 M (A :: L) w):St w0 M L w :=
  ⟨h.fr,fun B hB=>h.at_ B (List.mem_cons_of_mem _ hB),(List.pairwise_cons.1 h.nd).2,fun k hk=>h.mine k (by
    obtain ⟨B,hB,hk⟩:=mem_feet.1 hk
    exact mem_feet.2 ⟨B,List.mem_cons_of_mem _ hB,hk⟩)⟩
theorem QI_ds {P:Program} {i:Ci} {ds:List Deferred}:∀ {k:List It},QI P { i with ds:=ds } k=QI P i k
  | []=>rfl
  | .code x :: k=>by simp only [QI];rw [QI_ds (k:=k)]
  | .blk id :: k=>by simp only [QI];rw [QI_ds (k:=k)]
  | .scp :: k=>by simp only [QI];rw [QI_ds (k:=k)]
  | .lp I :: k=>by simp only [QI];rw [QI_ds (k:=k)]
section
variable {c:Cx} {i:Ci} {k:List It} {E:Env} {L:List Sp}
theorem JI.begin {i':Ci} {l:Nat} {r:Loop} {body:Code} {L0:List Sp} (hr:r.state=.ready) (h:JI c i [.code body] E (LK.blk l (.loop { r with state:=.busy }) :: L0)) (hds:i'.ds=i.ds:=by rfl):JI c i' [.lp (BeginI c i l body)] E (LK.blk l (.loop r) :: L0):=fun ok a w ha hs=>by
  have hl:w.heap[l]?=some (.loop r):=hs.at_ (LK.blk l (.loop r)) (by simp)
  exact ⟨_,run_beginRound hl hr,h ok a _ (hds ▸ ha) (hs.putObj (i:=0) rfl)⟩
theorem RE.next {X Z:Type} {rec:LoopState→Option Code→Loop} {l D:Nat} {φ:Nat→X→Prop} {LL:X→List Sp} {ψ:Code→Z→Prop} {LX:Z→List Sp} {m:Nat} {r:Loop} (y:X) (hy:φ (m+1) y) (hR:i.R0=RE c rec l D φ LL ψ LX m) (hrec:{ r with state:=.ready,pending:=none }=rec .ready none)
    (hL:L=blk l (.loop r) :: blk D (.deferred (some [])) :: LL y):JI c i [] E L:=fun _ a w _ hs=>by
  subst hL
  have hl:w.heap[l]?=some (.loop r):=hs.at_ (LK.blk l (.loop r)) (by simp)
  show i.R0 .normal a w
  rw [hR]
  refine ⟨_,_,run_endRound none hl,.inl ⟨rfl,y,hy,?_⟩⟩
  have:=hs.putObj (i:=0) (l:=l) (o':=.loop { r with state:=.ready,pending:=none }) rfl
  rw [hrec] at this
  have e2:(Obj.loop { r with state:=.ready,pending:=none })=.loop (rec .ready none):=congrArg _ hrec
  show St c.w0 c.M _ (w.putObj l (Obj.loop { r with state:=.ready,pending:=none }))
  rw [e2]
  exact this
theorem RE.out {X Z:Type} {rec:LoopState→Option Code→Loop} {l D:Nat} {φ:Nat→X→Prop} {LL:X→List Sp} {ψ:Code→Z→Prop} {LX:Z→List Sp} {m:Nat} {r:Loop} {x:Code} {e:Exit} {a:Act} {w:World} (z:Z) (hz:ψ x z) (hx:(e=.ret∧x=.ret)∨∃ id,e=.exit id∧x=.exit id)
    (hrec:∀ x,{ r with state:=.done,pending:=some x }=rec .done (some x)) (hs:St c.w0 c.M (LK.blk l (.loop r) :: LK.blk D (.deferred (some [])) :: LX z) w):RE c rec l D φ LL ψ LX m e a w:=by
  have hl:w.heap[l]?=some (.loop r):=hs.at_ (LK.blk l (.loop r)) (by simp)
  have h1:St c.w0 c.M (LK.blk l (.loop (rec .done (some x))) :: LK.blk D (.deferred (some [])) :: LX z) (w.putObj l (.loop { r with state:=.done,pending:=some x })):=by
    have h2:=hs.putObj (i:=0) (l:=l) (o':=.loop { r with state:=.done,pending:=some x }) rfl
    have e2:(Obj.loop { r with state:=.done,pending:=some x })=.loop (rec .done (some x)):=congrArg _ (hrec x)
    rw [e2] at h2 ⊢
    exact h2
  have h3:=run_endRound (P:=c.P) (some x) hl
  rcases hx with ⟨rfl,rfl⟩|⟨id,rfl,rfl⟩
  · exact ⟨_,_,h3,.inr ⟨rfl,_,z,hz,h1⟩⟩
  · exact ⟨_,_,h3,.inr ⟨rfl,_,z,hz,h1⟩⟩
end
def Cx.at (c:Cx) (W:World):Cx:={ c with w0:=W,M:=[] }
def JE (c:Cx) (i:Ci) (k:List It) (E:Env) (W:World):Prop:=∀ a,HasD c.n i.ds a E→QI c.P i k .normal a W
def OE (c:Cx) (i:Ci) (ops:Array Oper) (rest:List Oper) (k:List It) (E:Env) (W:World):Prop :=
  ∀ a,HasD c.n i.ds a E→wpListIn (FW i.ro) i.dp c.P ops (QI c.P i k) rest a W
section
variable {c:Cx} {i:Ci} {k:List It} {E:Env} {W:World}
theorem JE.blk {id:Nat} (h:JE c i k E W):JE c i (.blk id :: k) E W:=fun a ha=>h a ha
variable {ops:Array Oper} {rest:List Oper} {o:Op} {ty:TypeId} {d:Nat} {pos:String} {af:Array Edge} {v:Value}
theorem OE.q (hok:(c.at W).Ok) (hq:Qt (c.at W) E [] o ty v) (hd:Nat.blt d c.n=true) (h:OE c i ops rest k ((d,v) :: E) W) (hnd:noDefer o=true:=by rfl):OE c i ops (⟨some d,o,ty,pos,af,none⟩ :: rest) k E W:=fun a ha =>
  wpListIn_plain rfl fun _ hK=>wpIn_move (b:=bare a) (X:=fun u _ w'=>u=v∧w'=W) (noDefer_of hnd) (by rw [bare_eval]) (fun d' hd'=>by cases hd';rw [ha.bare.size];exact Nat.le_of_ble_eq_true hd)
    (wp_loud (hq hok (bare a) W ha.bare ⟨Frame.refl W [],fun A hA=>(by cases hA),.nil,fun k hk=>(by cases hk)⟩ _ _ _ _) ⟨v,[],rfl,rfl,rfl⟩) fun u _ w' hX=>by
      obtain ⟨rfl,rfl⟩:=hX
      exact hK _ _ (h _ (ha.put _ hd))
theorem OE.p (hq:Pu c E o ty v) (hd:Nat.blt d c.n=true) (h:OE c i ops rest k ((d,v) :: E) W) (hnd:noDefer o=true:=by rfl):OE c i ops (⟨some d,o,ty,pos,af,none⟩ :: rest) k E W:=fun a ha =>
  wpListIn_plain rfl fun _ hK=>wpIn_move (b:=bare a) (X:=fun u _ w'=>u=v∧w'=W) (noDefer_of hnd) (by rw [bare_eval]) (fun d' hd'=>by cases hd';rw [ha.bare.size];exact Nat.le_of_ble_eq_true hd)
    (wp_loud (hq (bare a) W ha.bare _ _ _ _) ⟨v,[],rfl,rfl,rfl⟩) fun u _ w' hX=>by
      obtain ⟨rfl,rfl⟩:=hX
      exact hK _ _ (h _ (ha.put _ hd))
end
theorem args_has {n:Nat} {args:List Value} (hle:Nat.ble args.length n=true):HasD n [] { tmps:=args.toArray++Array.replicate (n-args.toArray.size) undef,defers:=[] } (envOf 0 args):=by
  have hle':=Nat.le_of_ble_eq_true hle
  refine ⟨by simp;omega,rfl,fun t v ht=>?_⟩
  obtain ⟨_,h2⟩:=look_envOf args 0 t v ht
  simp only [Nat.sub_zero] at h2
  obtain ⟨hlt,rfl⟩:=List.getElem?_eq_some_iff.1 h2
  simp [Array.getD_eq_getD_getElem?,Array.getElem?_append,hlt]
def RM (c:Cx) (m:Nat):Exit→Act→World→Prop:=bodyPostM (FW none) m c.P c.fn c.R
theorem Tri.enterI {P:Program} {f:FuncId} {fn:Func} {body:Code} {args:List Value} {Ro L:List Sp} {post:Value→List Sp→Prop} (n:Nat) (hf:P.funcs[f]?=some fn) (hb:fn.body=some body) (hn:fn.ntmps=n) (hle:Nat.ble args.length n=true)
    (h:∀ w,JI { P:=P,fn:=fn,n:=n,w0:=w,M:=feet L,Ro:=Ro,R:=endPost w (feet L) post } ⟨none,0,[],RM { P:=P,fn:=fn,n:=n,w0:=w,M:=feet L,Ro:=Ro,R:=endPost w (feet L) post } 0⟩ [.code body] (envOf 0 args) L):Tri P f args.toArray Ro L post:=by
  intro w hro hst
  refine callsIn_wide.1 (show CallsIn (FW none) 0 P f _ w _ from callsIn_of_wp_marks hf hb trivial ?_)
  rw [hn]
  exact h w hro _ w (args_has hle) hst
section
variable {c:Cx} {i:Ci} {k:List It} {E:Env} {L:List Sp}
theorem JI.retM {D j:Nat} (hR:i.R0=RM c i.dp) (hd:i.ds=[{ target:=.collected D,args:=#[] }]) (hj:L[j]?=some (LK.blk D (.deferred (some [])))) (hf:Fin c E (L.set j (LK.blk D (.deferred none)))):JI c i (.code .ret :: k) E L :=
  JI.ret fun ok a w ha hs=>by
    rw [hR]
    have hl:w.heap[D]?=some (.deferred (some [])):=hs.at_ (LK.blk D (.deferred (some []))) (List.mem_of_getElem? hj)
    have ht:=run_takeDeferred (P:=c.P) hl
    show LeavesInM (FW none) i.dp c.P c.fn a.tmps c.R a.defers .returning w
    rw [ha.defers,hd]
    refine ⟨by simp,.inl ⟨D,_,rfl,ht,?_⟩⟩
    have h1:=hs.putObj (o':=.deferred none) hj
    obtain ⟨v,hv,hR'⟩:=hf ok (bare a) _ ha.bare h1
    exact ⟨v,hv,hR'⟩
theorem RE.ret {X Z:Type} {rec:LoopState→Option Code→Loop} {l D:Nat} {φ:Nat→X→Prop} {LL:X→List Sp} {ψ:Code→Z→Prop} {LX:Z→List Sp} {m:Nat} {r:Loop} (z:Z) (hz:ψ .ret z) (hR:i.R0=RE c rec l D φ LL ψ LX m)
    (is:List Nat) (hn:is.Nodup) (hL:LK.sel L is=LK.blk l (.loop r) :: LK.blk D (.deferred (some [])) :: LX z) (hrec:∀ x,{ r with state:=.done,pending:=some x }=rec .done (some x)):JI c i (.code .ret :: k) E L :=
  JI.ret fun _ _ _ _ hs=>by
    rw [hR]
    exact RE.out z hz (.inl ⟨rfl,rfl⟩) hrec (hL ▸ hs.sel hn)
theorem RE.nextS {X Z:Type} {rec:LoopState→Option Code→Loop} {l D:Nat} {φ:Nat→X→Prop} {LL:X→List Sp} {ψ:Code→Z→Prop} {LX:Z→List Sp} {m:Nat} {r:Loop} (y:X) (hy:φ (m+1) y) (hR:i.R0=RE c rec l D φ LL ψ LX m)
    (is:List Nat) (hn:is.Nodup) (hL:LK.sel L is=blk l (.loop r) :: blk D (.deferred (some [])) :: LL y) (hrec:{ r with state:=.ready,pending:=none }=rec .ready none):JI c i [] E L:=JI.sel is _ hn hL (RE.next y hy hR hrec rfl)
end
end Go.LK
namespace Go.LK
open Go Go.RowKit
theorem Lo.buildE {α:Type} (f:α→List Value) {c:Cx} {E:Env} {L:List Sp} {T t:TypeId} {s:Nat} {ty:TypeId} (hT:∀ w,(underlying T).run c.P w=.ok (.slice t) w) (hs:∀ w,(sizeOf t).run c.P w=.ok s w) :
    Lo c E L (.buildSlice T 0 #[]) ty fun v L'=>L'=row v t s (([]:List α).map f) :: L:=fun _ a w ha hst d pos af g K Q hK=>by
  refine wp_loud (v:=.slice (some ⟨w.heap.size,0,none⟩) 0 0) (w':=w.alloc (.cells #[] t)) ?_ (hK _ _ _ rfl (hst.add (frame_alloc w _) ⟨?_,by simp⟩ (by simp [row,Value.ownBlock])))
  · simp only [execOp]
    simp [Instr.buildSlice,hT,hs,Instr.fill,run_newRow]
    rw [show Array.range 0=#[] from Array.eq_empty_of_size_eq_zero (by simp)]
    simp
  · exact ⟨by simp,.inr ⟨w.heap.size,0,_,rfl,Nat.zero_le _,heap_alloc_new w _,Nat.le_refl _,by simp [maxLen],by simp,by simp⟩⟩
end Go.LK
namespace Go.LK
open Go Go.RowKit
abbrev str (l:List UInt8):Value:=.string ⟨l.toArray⟩
theorem str_of (s:ByteArray):(.string s:Value)=str s.data.toList:=by
  obtain ⟨⟨l⟩⟩:=s
  rfl
section
variable {c:Cx} {E:Env} {x y z:Operand} {T ty:TypeId} {l m:List UInt8}
theorem Pu.conv {S D:TypeId} {k k':IntKind} {n:Int} {ds:TypeDesc} (hS:∀ w,(underlying S).run c.P w=.ok ds w) (hD:∀ w,(underlying D).run c.P w=.ok (.int k) w) (hx:ev E x=some (.int k' n)):Pu c E (.convert S D x) ty (.int k (k.wrap n)):=fun a w ha _ _ _ _=>by
  simp [execOp,ha.ev hx,convert,hS,hD,Conv.intToInt]
end
section
variable {c:Cx} {E:Env} {x y:Operand} {T ty:TypeId} {kd:IntKind} {m n:Int}
theorem Pu.quo (hx:ev E x=some (.int kd m)) (hy:ev E y=some (.int kd n)) (h:¬n=0):Pu c E (.binOp .quo T x y T) ty (.int kd (kd.wrap (m.tdiv n))):=fun a w ha _ _ _ _=>by simp [execOp,eqGuard,ha.ev hx,ha.ev hy,binOp,Op.intDiv,h]
theorem Pu.rem (hx:ev E x=some (.int kd m)) (hy:ev E y=some (.int kd n)) (h:¬n=0):Pu c E (.binOp .rem T x y T) ty (.int kd (m.tmod n)):=fun a w ha _ _ _ _=>by simp [execOp,eqGuard,ha.ev hx,ha.ev hy,binOp,Op.intDiv,h]
theorem Pu.quo' (hx:ev E x=some (.int .i64 m)) (hy:ev E y=some (.int .i64 n)) (h0:0≤m) (h1:1≤n) (hb:m≤9223372036854775807):Pu c E (.binOp .quo T x y T) ty (.int .i64 (m / n)):=by
  have h:=Pu.quo (c:=c) (T:=T) (ty:=ty) hx hy (by omega)
  have h2:m / n≤m:=Int.ediv_le_self n h0
  have h3:0≤m / n:=Int.ediv_nonneg h0 (by omega)
  rw [Int.tdiv_eq_ediv_of_nonneg h0,in_i64 (by omega)] at h
  exact h
theorem Pu.rem' (hx:ev E x=some (.int kd m)) (hy:ev E y=some (.int kd n)) (h0:0≤m) (h1:1≤n):Pu c E (.binOp .rem T x y T) ty (.int kd (m%n)):=by
  have h:=Pu.rem (c:=c) (T:=T) (ty:=ty) hx hy (by omega)
  rw [Int.tmod_eq_emod_of_nonneg h0] at h
  exact h
theorem Pu.mul' (hx:ev E x=some (.int .i64 m)) (hy:ev E y=some (.int .i64 n)) (h:-9223372036854775808≤m*n∧m*n≤9223372036854775807):Pu c E (.binOp .mul T x y T) ty (.int .i64 (m*n)):=by
  have:=Pu.mul (c:=c) (T:=T) (ty:=ty) hx hy;rwa [in_i64 h] at this
theorem Pu.neg (hx:ev E x=some (.int kd m)):Pu c E (.unOp .neg T x) ty (.int kd (kd.wrap (0-m))):=fun a w ha _ _ _ _=>by simp [execOp,ha.ev hx,Op.unary,Op.intArith]
end
end Go.LK
namespace Go.LK
open Go Go.RowKit
end Go.LK
namespace Go.LK
open Go Go.RowKit
section
variable {c:Cx} {E:Env} {x y:Operand} {T ty:TypeId} {f:Field} {fs:Array Field}
theorem Pu.isSome {ms:Array (String×TypeId)} {t':TypeId} {v:Value} (hT:c.P.underlying T=some (.interface ms)) (hx:ev E x=some (.iface t' v)):Pu c E (.binOp .neq T x (.const .nilIface) T) ty (.bool true):=fun a w h _ _ _ _=>by
  have h2:a.eval (.const .nilIface)=.nilIface:=rfl
  have h3:∀ d,(Op.equalIn (d+1) T (.iface t' v) .nilIface).run c.P w=.ok false w:=fun d=>by simp [Op.equalIn,run_underlying hT]
  have h4:(binOp .neq T (.iface t' v) .nilIface).run c.P w=.ok (.bool true) w:=by
    show (do pure (.bool (!(← Op.equal T (.iface t' v) .nilIface))):Sem Value).run c.P w=_
    rw [Sem.run_bind,show Op.equal T (.iface t' v) .nilIface=Op.equalIn (9999+1) T (.iface t' v) .nilIface from rfl,h3]
    rfl
  have h5:eqGuard .neq T x (.const .nilIface) (.iface t' v) .nilIface=pure ():=by cases x<;>rfl
  simp only [execOp,h.ev hx,h2,h5]
  simp [h4]
end
end Go.LK
namespace Go.LK
open Go Go.RowKit
section
variable {c:Cx} {E:Env} {x:Operand} {T ty:TypeId} {v:Value} {b:Bool} {ms:Array (String×TypeId)}
end
end Go.LK
namespace Go.LK
open Go Go.RowKit
theorem Pu.to {c:Cx} {E:Env} {o:Op} {ty:TypeId} {v v':Value} (h:Pu c E o ty v) (e:v=v'):Pu c E o ty v':=e ▸ h
end Go.LK
namespace Go.LK
open Go Go.RowKit
theorem set_cells {α:Type} {f:α→Value} {l:List α} {i:Nat} {x:α} (h:i < l.length):(l.map f).take i++[f x]++(l.map f).drop (i+[f x].length)=(l.set i x).map f:=by
  rw [←List.map_take,List.length_singleton,←List.map_drop,List.set_eq_take_append_cons_drop,if_pos h]
  simp
theorem at_map {α:Type} {f:α→Value} {l:List α} {i:Nat} {x:α} (h:l[i]?=some x):(l.map f)[i]?=some (f x):=by rw [List.getElem?_map,h];rfl
section
variable {c:Cx} {E:Env} {L:List Sp} {x y:Operand} {T ty:TypeId} {kd:IntKind}
theorem Pu.indexAddrG {len e g off s:Nat} {m:Int} (hT:∀ w,(underlying T).run c.P w=.ok (.array len e) w) (hs:∀ w,(sizeOf e).run c.P w=.ok s w)
    (hx:ev E x=some (.pointer (some ⟨g,off,none⟩))) (hy:ev E y=some (.int kd m)) (h0:0≤m) (h1:m < len):Pu c E (.indexAddr T x y) ty (.pointer (some ⟨g,off+m.toNat*s,none⟩)):=fun a w ha _ _ _ _=>by
  have hadd:Addr.add ⟨g,off,none⟩ (m.toNat*s)=⟨g,off+m.toNat*s,none⟩:=by unfold Addr.add;split<;>simp_all
  simp [execOp,ha.ev hx,ha.ev hy,Instr.indexAt,Instr.sureAddr,asIntOf,hT,hs,h0,h1,hadd]
end
section
variable {c:Cx} {E:Env} {L:List Sp} {x:Operand} {S D ty:TypeId}
end
end Go.LK
namespace Go.LK
open Go Go.RowKit
def encZ (n:Int):List Value:=[.int .i64 n]
theorem encZ.one {l:List Int}:∀ a∈l,(encZ a).all Value.oneCell'=true:=fun _ _=>rfl
end Go.LK
namespace Go.LK
def LP.I64 (n:Int):Prop:=-9223372036854775808≤n∧n≤9223372036854775807
def LP.I64s (l:List Int):Prop:=∀ x∈l,LP.I64 x
end Go.LK
namespace Go.LK
open Go Go.RowKit Go.ChangeShapes Go.WideShapes Go.ChangeAt Go.Deep
def Rdb {H:Type} (enc:TypeId×Value→H) (P:Program) (W:World) (t:TypeId) (cs:List Value):Prop :=
  ∃ (fuel:Nat) (x:DataW H×List MemPlace),DataW.trod enc P W 0 (fun _=>true) true fuel t cs=some x
section
variable {H:Type} {enc:TypeId×Value→H} {P:Program} {W:World} {t e:TypeId} {cs:List Value}
theorem Rdb.of {v:Value} {d:DataW H} {p:List MemPlace} (h:DataW.Trod enc P W 0 (fun _=>true) true t v d p):Rdb enc P W t v.cells.toList:=by
  obtain ⟨fuel,hf⟩:=h
  exact ⟨fuel,_,hf⟩
theorem Rdb.int (h:Rdb enc P W t cs) (ht:P.underlying t=some (.int .i64)):∃ q:Int,cs=[.int .i64 q]∧LP.I64 q:=by
  obtain ⟨fuel,x,hf⟩:=h
  obtain ⟨q,hq,_,hw⟩:=DataW.trod_int ht hf
  exact ⟨q,hq,bounds_i64 hw⟩
theorem Rdb.u64 (h:Rdb enc P W t cs) (ht:P.underlying t=some (.int .u64)):∃ q:Nat,cs=[.int .u64 (q:Int)]∧q < 18446744073709551616:=by
  obtain ⟨fuel,x,hf⟩:=h
  obtain ⟨q,hq,_,hw⟩:=DataW.trod_int ht hf
  have h1:=bounds_u64 hw
  obtain ⟨n,rfl,hn⟩:∃ n:Nat,q=(Nat.cast n:Int)∧n < 18446744073709551616:=⟨q.toNat,by omega,by omega⟩
  exact ⟨n,hq,hn⟩
theorem Rdb.str (h:Rdb enc P W t cs) (ht:P.underlying t=some .string):∃ l:List UInt8,cs=[str l]:=by
  obtain ⟨fuel,x,hf⟩:=h
  obtain ⟨s,hs,_⟩:=DataW.trod_string ht hf
  obtain ⟨⟨l⟩⟩:=s
  exact ⟨l,hs⟩
theorem Rdb.len {fs:Array Field} (h:Rdb enc P W t cs) (ht:P.underlying t=some (.struct fs)):cs.length=P.cellsOf t:=by
  obtain ⟨fuel,x,hf⟩:=h
  obtain ⟨_,_,_,_,hl,_⟩:=DataW.trod_struct ht hf
  exact hl
theorem Rdb.field {fs:Array Field} (h:Rdb enc P W t cs) (ht:P.underlying t=some (.struct fs)) (j:Nat) (f:Field) (hj:fs[j]?=some f):Rdb enc P W f.type ((cs.drop f.offset).take (P.cellsOf f.type)):=by
  obtain ⟨fuel,x,hf⟩:=h
  obtain ⟨xs,n,_,_,_,hl,hat⟩:=DataW.trod_struct ht hf
  have hlt:j < fs.size:=(Array.getElem?_eq_some_iff.1 hj).1
  exact ⟨n,xs[j]'(by omega),by rw [hat j f hj];exact List.getElem?_eq_getElem (by omega)⟩
theorem Rdb.at {n:Nat} (h:Rdb enc P W t cs) (ht:P.underlying t=some (.array n e)) (j:Nat) (hj:j < n):Rdb enc P W e ((cs.drop (j*P.cellsOf e)).take (P.cellsOf e)):=by
  obtain ⟨fuel,x,hf⟩:=h
  obtain ⟨xs,m,_,_,_,hl,hat⟩:=DataW.trod_array ht hf
  exact ⟨m,xs[j]'(by omega),by rw [hat j hj];exact List.getElem?_eq_getElem (by omega)⟩
theorem cut_next {α:Type} {l x:List α} {off n m:Nat} (h:(l.drop off).take n=x) (hm:off+n=m):l.drop off=x++l.drop m:=by
  subst hm
  rw [←h,←List.drop_drop,List.take_append_drop]
theorem cut_end {α:Type} {l:List α} {m:Nat} (h:l.length=m):l.drop m=[]:=List.drop_eq_nil_of_le (by omega)
theorem Rdb.slice (h:Rdb enc P W t cs) (s:Nat) (hs0:0 < s) (ht:P.underlying t=some (.slice e)) (hC:P.cellsOf e=s) :
    ∃ (v:Value) (l:List (List Value)),cs=[v]∧Elt W v s l∧∀ a∈l,Rdb enc P W e a:=by
  obtain ⟨fuel,x,hf⟩:=h
  rcases open_slice ht hf with ⟨hcs,_⟩|⟨a,len,cap,m,n,D,Pl,hcs,_,hlc,hcm,hm,_,hi⟩
  · exact ⟨_,[],hcs,⟨by simp,⟨none,0,rfl,by simp,by simp [maxLen]⟩,fun h=>absurd rfl h,fun i e j u hi=>by simp at hi⟩,by simp⟩
  · have hmc:m=cap:=by simpa using hm
    subst hmc
    rw [hC] at hi
    have h1:∀ i,i < len→∃ c:List Value,c.length=s∧(∀ j u,c[j]?=some u→W.cell? (a.add (i*s+j))=some u)∧Rdb enc P W e c:=fun i hil=>by
      obtain ⟨c,hc,hx⟩:=hi i (by omega)
      obtain ⟨_,hl,hat⟩:=World.cells?_some hc
      refine ⟨c,hl,fun j u hj=>?_,n,_,hx⟩
      have hjl:=(List.getElem?_eq_some_iff.1 hj).1
      have:=hat j (by omega)
      rw [←Go.Deep.add_add,this,hj]
    let G:Nat→List Value:=fun i=>if h:i < len then Classical.choose (h1 i h) else []
    have hG:∀ i,i < len→(G i).length=s∧(∀ j u,(G i)[j]?=some u→W.cell? (a.add (i*s+j))=some u)∧Rdb enc P W e (G i):=fun i hil=>by
      simp only [G,hil,dif_pos];exact Classical.choose_spec (h1 i hil)
    have haddr:0 < len→a=⟨vblk (.slice (some a) len m),voff (.slice (some a) len m),none⟩:=fun h0=>by
      obtain ⟨h1,h2,_⟩:=hG 0 h0
      have h3:=h2 0 _ (List.getElem?_eq_getElem (by omega))
      simp only [Nat.zero_mul,Nat.add_zero,Addr.add,if_true] at h3
      obtain ⟨b,o,sp⟩:=a
      cases sp with
      | none=>rfl
      | some q =>
        exfalso
        simp only [World.cell?] at h3
        split at h3<;>simp at h3
    have hlen:((List.range len).map G).length=len:=by simp
    refine ⟨_,(List.range len).map G,hcs,⟨?_,⟨_,m,by rw [hlen],by rw [hlen];exact hlc,hcm⟩,?_,?_⟩,?_⟩
    · intro x hx
      obtain ⟨i,hi',rfl⟩:=List.mem_map.1 hx
      exact (hG i (List.mem_range.1 hi')).1
    · intro hne
      have h0:0 < len:=by
        rcases Nat.eq_zero_or_pos len with h|h
        · subst h;exact absurd rfl hne
        · exact h
      exact ⟨m,by rw [hlen];exact congrArg (fun z=>Value.slice (some z) len m) (haddr h0)⟩
    · intro i e' j u hi hj
      rw [List.getElem?_map] at hi
      obtain ⟨i',hi',he'⟩:=Option.map_eq_some_iff.1 hi
      obtain ⟨hlt,hii⟩:=List.getElem?_eq_some_iff.1 hi'
      simp at hlt hii
      subst hii
      subst he'
      have h4:=(hG i hlt).2.1 j u hj
      rw [haddr (by omega),add_at] at h4
      rw [Nat.add_assoc,h4]
    · intro b hb
      obtain ⟨i,hi',rfl⟩:=List.mem_map.1 hb
      exact (hG i (List.mem_range.1 hi')).2.2
end
theorem lift_map {α β:Type} {f:α→β} {Q:α→Prop}:∀ {l:List β},(∀ b∈l,∃ a,b=f a∧Q a)→∃ l':List α,l=l'.map f∧∀ a∈l',Q a
  | [],_=>⟨[],rfl,by simp⟩
  | b :: l,h=>by
    obtain ⟨a,rfl,ha⟩:=h b (by simp)
    obtain ⟨l',rfl,hl⟩:=lift_map (l:=l) fun b hb=>h b (by simp [hb])
    exact ⟨a :: l',rfl,by simpa using ⟨ha,hl⟩⟩
section
variable {H:Type} {enc:TypeId×Value→H} {P:Program} {W:World} {t e:TypeId} {cs:List Value}
theorem agg_of {c:Array Value} {l:List Value} (h:(Value.agg c).cells.toList=l):Value.agg c=.agg l.toArray:=by
  subst h;rfl
theorem one_of {v u:Value} (hv:∀ c,v≠.agg c) (h:v.cells.toList=[u]):v=u:=by
  cases v<;>first|exact absurd rfl (hv _)|simpa [Value.cells] using h
end
theorem noagg {v:Value} (h:∃ a len cap,v=.slice a len cap):∀ c,v≠.agg c:=by
  rintro c rfl
  obtain ⟨_,_,_,h⟩:=h
  cases h
end Go.LK
namespace Go.LK
open Go Go.RowKit
section
variable {c:Cx} {E:Env} {L:List Sp} {ty T:TypeId} {x:Operand} {l:List UInt8} {g p:Nat}
end
end Go.LK
namespace Go.LK
open Go Go.RowKit
def vcut (V:Value) (s a b:Nat):Value:=match V with
  | .slice A _ cap=>.slice (if cap=a then A else A.map (·.add (a*s))) (b-a) (cap-a)
  | v=>v
theorem Elt.cut {w:World} {V:Value} {s:Nat} {els:List (List Value)} (h:Elt w V s els) {a b:Nat} (hab:a≤b) (hb:b≤els.length):Elt w (vcut V s a b) s ((els.take b).drop a):=by
  obtain ⟨A,cap,hV,h1,h2⟩:=h.form
  have hlen:((els.take b).drop a).length=b-a:=by simp;omega
  have hat:∀ i e,((els.take b).drop a)[i]?=some e→a+i < b∧els[a+i]?=some e:=fun i e hi=>by
    have hlt:=(List.getElem?_eq_some_iff.1 hi).1
    rw [hlen] at hlt
    rw [List.getElem?_drop,List.getElem?_take,if_pos (by omega)] at hi
    exact ⟨by omega,hi⟩
  have hne:(els.take b).drop a≠[]→∃ cap',vcut V s a b=.slice (some ⟨vblk V,voff V+a*s,none⟩) (b-a) cap':=fun hn=>by
    have hlt:a < b:=Nat.lt_of_not_le fun hc=>hn (List.eq_nil_of_length_eq_zero (by omega))
    obtain ⟨cap',hv⟩:=h.addr (fun hc=>by subst hc;simp at hb;omega)
    have hcc:cap'=cap:=by rw [hV] at hv;injection hv with _ _ h3;exact h3.symm
    have hA:A=some ⟨vblk V,voff V,none⟩:=by
      have:=hV.symm.trans hv
      injection this with h3
    refine ⟨cap-a,?_⟩
    have hvc:vcut V s a b=.slice (if cap=a then A else A.map (·.add (a*s))) (b-a) (cap-a):=by rw [hV];rfl
    rw [hvc,if_neg (by omega),hA]
    simp [add_at]
  refine ⟨fun x hx=>h.len x (List.mem_of_mem_take (List.mem_of_mem_drop hx)),?_,fun hn=>?_,fun i e j u hi hj=>?_⟩
  · rw [hlen]
    subst hV
    exact ⟨_,cap-a,rfl,by omega,by omega⟩
  · obtain ⟨cap',hv⟩:=hne hn
    exact ⟨cap',by rw [hlen,hv];rfl⟩
  · obtain ⟨cap',hv⟩:=hne (fun hc=>by rw [hc] at hi;simp at hi)
    obtain ⟨h3,h4⟩:=hat i e hi
    have:=h.cells (a+i) e j u h4 hj
    rw [hv]
    show w.cell? ⟨vblk V,voff V+a*s+i*s+j,none⟩=some u
    rw [show voff V+a*s+i*s+j=voff V+(a+i)*s+j from by rw [Nat.add_mul];omega]
    exact this
theorem vcut_blk {w:World} {V:Value} {s:Nat} {els:List (List Value)} (h:Elt w V s els) {a b:Nat} (hab:a≤b) (hb:b≤els.length):∀ k∈(rd (vcut V s a b) s ((els.take b).drop a)).foot,k∈(rd V s els).foot:=by
  intro k hk
  simp only [rd] at hk ⊢
  split at hk
  · cases hk
  · rename_i hne
    have hne2:(els.take b).drop a≠[]:=fun hc=>hne (by rw [hc];rfl)
    have hE:=h.cut hab hb
    obtain ⟨cap',hv⟩:=hE.addr hne2
    have hel:els≠[]:=fun hc=>hne2 (by rw [hc];simp)
    have hfl:els.flatten≠[]:=fun hc=>hne (by
      rw [List.flatten_eq_nil_iff] at hc ⊢
      exact fun x hx=>hc x (List.mem_of_mem_take (List.mem_of_mem_drop hx)))
    rw [if_neg hfl]
    obtain ⟨cap2,hV⟩:=h.addr hel
    have hlen:((els.take b).drop a).length=b-a:=by simp;omega
    have hlt:a < b:=Nat.lt_of_not_le fun hc=>hne2 (List.eq_nil_of_length_eq_zero (by omega))
    have:vblk (vcut V s a b)=vblk V:=by
      obtain ⟨A,cap,hV',h1,_⟩:=h.form
      rw [hV'] at hV
      injection hV with h3
      rw [hV',h3]
      have hca:¬cap=a:=by omega
      simp [vcut,vblk,hca,add_at]
    rw [this] at hk
    exact hk
section
variable {c:Cx} {k:List It} {E:Env} {L:List Sp} {ops:Array Oper} {rest:List Oper} {ty:TypeId} {v V:Value} {x y z:Operand} {T t:TypeId} {s:Nat}
variable {α:Type} {f:α→List Value} {l:List α}
theorem Src.cut {a b:Nat} (hs:Src c L V s (l.map f)) (hab:a≤b) (hb:b≤l.length):Src c L (vcut V s a b) s (((l.take b).drop a).map f):=fun ok w hst=>by
  have:=(hs ok w hst).cut hab (by rw [List.length_map];exact hb)
  rwa [←List.map_take,←List.map_drop] at this
theorem Src.head {b:Nat} (hs:Src c L V s (l.map f)) (hb:b≤l.length):Src c L (vcut V s 0 b) s ((l.take b).map f):=Src.cut (a:=0) hs (Nat.zero_le _) hb
theorem Src.tail {a b:Nat} (hs:Src c L V s (l.map f)) (ha:a≤l.length) (hb:b=l.length):Src c L (vcut V s a b) s ((l.drop a).map f):=by
  subst hb
  have:=Src.cut (b:=l.length) hs ha (Nat.le_refl _)
  rwa [List.take_of_length_le (Nat.le_refl _)] at this
theorem run_sliceV {P:Program} {w:World} {V:Value} {els:List (List Value)} (hT:∀ w,(underlying T).run P w=.ok (.slice t) w) (hz:∀ w,(sizeOf t).run P w=.ok s w) (hE:Elt w V s els) {lo hi:Option Value} {a b:Nat}
    (hlo:(lo=none∧a=0)∨lo=some (.int .i64 a)) (hhi:(hi=none∧b=els.length)∨hi=some (.int .i64 b)) (hab:a≤b) (hb:b≤els.length):(Instr.sliceAt T V lo hi none).run P w=.ok (vcut V s a b) w:=by
  obtain ⟨A,cap,hV,h1,h2⟩:=hE.form
  subst hV
  have hcb:b≤cap:=by omega
  rcases hlo with ⟨rfl,rfl⟩|rfl<;>rcases hhi with ⟨rfl,rfl⟩|rfl <;>
    simp [Instr.sliceAt,Instr.slice,Instr.sliceBounds,Instr.sliceBound,asIntOf,hT,hz,vcut,hab,hcb,hb,h1]
theorem Qt.cutHead {j:Int} (hT:∀ w,(underlying T).run c.P w=.ok (.slice t) w) (hz:∀ w,(sizeOf t).run c.P w=.ok s w) (hx:ev E x=some V) (hs:Src c L V s (l.map f)) (hy:ev E z=some (.int .i64 j)) (h0:0≤j) (h1:j≤l.length) :
    Qt c E L (.slice T x none (some z) none) ty (vcut V s 0 j.toNat):=fun ok a w ha hst _ _ _ _=>by
  have h2:((j.toNat:Nat):Int)=j:=Int.toNat_of_nonneg h0
  have:=run_sliceV (P:=c.P) (w:=w) (lo:=none) (hi:=some (.int .i64 j)) hT hz (hs ok w hst) (.inl ⟨rfl,rfl⟩) (.inr (by rw [h2])) (Nat.zero_le _) (by rw [List.length_map];omega)
  simp [execOp,ha.ev hx,ha.ev hy,this]
theorem Qt.cutTail {j:Int} (hT:∀ w,(underlying T).run c.P w=.ok (.slice t) w) (hz:∀ w,(sizeOf t).run c.P w=.ok s w) (hx:ev E x=some V) (hs:Src c L V s (l.map f)) (hy:ev E y=some (.int .i64 j)) (h0:0≤j) (h1:j≤l.length) :
    Qt c E L (.slice T x (some y) none none) ty (vcut V s j.toNat l.length):=fun ok a w ha hst _ _ _ _=>by
  have h2:((j.toNat:Nat):Int)=j:=Int.toNat_of_nonneg h0
  have:=run_sliceV (P:=c.P) (w:=w) (lo:=some (.int .i64 j)) (hi:=none) (b:=l.length) hT hz (hs ok w hst) (.inr (by rw [h2])) (.inl ⟨rfl,by rw [List.length_map]⟩) (by omega) (by rw [List.length_map];omega)
  simp [execOp,ha.ev hx,ha.ev hy,this]
theorem row_head {w:World} {V:Value} {els:List (List Value)} {b:Nat} (h:(row V t s els).holds w) (hb:b≤els.length):(row (vcut V s 0 b) t s (els.take b)).holds w:=by
  obtain ⟨ho,hl⟩:=h
  have hlt:∀ x∈els.take b,x.length=s:=fun x hx=>hl x (List.mem_of_mem_take hx)
  have hlen:(els.take b).length=b:=by rw [List.length_take];omega
  refine ⟨⟨length_flatten hlt,?_⟩,hlt⟩
  rcases ho.2 with ⟨rfl,hn⟩|⟨g,cap,cur,rfl,hb',hg,hnc,hcm,hcs,htake⟩
  · refine .inl ⟨?_,by rw [hlen];omega⟩
    have:b=0:=by omega
    subst this
    rfl
  · refine .inr ⟨g,cap,cur,?_,hb',hg,by omega,hcm,hcs,?_⟩
    · rw [hlen]
      by_cases hc:cap=0
      · simp [vcut,hc]
      · simp [vcut,hc,Addr.add]
    · rw [hlen]
      have h1:els.flatten.take (b*s)=(els.take b).flatten:=by
        conv=>lhs;rw [←List.take_append_drop b els,List.flatten_append]
        rw [List.take_append_of_le_length (by rw [length_flatten hlt,hlen];exact Nat.le_refl _),List.take_of_length_le (by rw [length_flatten hlt,hlen];exact Nat.le_refl _)]
      rw [←h1,←htake,List.take_take,Nat.min_eq_left (Nat.mul_le_mul_right s hb)]
theorem Lo.headRow (i:Nat) {j:Int} (hT:∀ w,(underlying T).run c.P w=.ok (.slice t) w) (hz:∀ w,(sizeOf t).run c.P w=.ok s w) (hx:ev E x=some V) (hi:L[i]?=some (row V t s (l.map f))) (hy:ev E z=some (.int .i64 j)) (h0:0≤j) (h1:j≤l.length) :
    Lo c E L (.slice T x none (some z) none) ty fun v L'=>v=vcut V s 0 j.toNat∧L'=L.set i (row (vcut V s 0 j.toNat) t s ((l.take j.toNat).map f)):=fun ok a w ha hst d pos af gd K Q hK=>by
  have hh:=hst.at_ _ (List.mem_of_getElem? hi)
  refine wp_loud (v:=vcut V s 0 j.toNat) (w':=w) (Qt.cutHead hT hz hx (Src.row i hi) hy h0 h1 ok a w ha hst _ _ _ _) (hK _ _ _ ⟨rfl,rfl⟩ (hst.set hi (Frame.refl w _) ?_ (fun k hk=>.inl ?_)))
  · have:=row_head (b:=j.toNat) hh (by rw [List.length_map];omega)
    rwa [←List.map_take] at this
  · rcases hh.1.2 with ⟨rfl,_⟩|⟨g,cap,cur,rfl,_⟩
    · simp [row,vcut,Value.ownBlock] at hk
    · by_cases hc:cap=0<;>simpa [row,vcut,Value.ownBlock,hc,Addr.add] using hk
theorem cut_rd {V:Value} {a b:Nat} (hab:a≤b) (hb:b≤l.length):∀ w,(rd V s (l.map f)).holds w→(rd (vcut V s a b) s (((l.take b).drop a).map f)).holds w∧∀ k∈(rd (vcut V s a b) s (((l.take b).drop a).map f)).foot,k∈(rd V s (l.map f)).foot:=fun w h=>by
  have h1:=Elt.cut (s:=s) h hab (by rw [List.length_map];exact hb)
  have h2:=vcut_blk (s:=s) h hab (by rw [List.length_map];exact hb)
  rw [←List.map_take,←List.map_drop] at h1 h2
  exact ⟨h1,h2⟩
theorem head_rd {V:Value} {b:Nat} (hb:b≤l.length):∀ w,(rd V s (l.map f)).holds w→(rd (vcut V s 0 b) s ((l.take b).map f)).holds w∧∀ k∈(rd (vcut V s 0 b) s ((l.take b).map f)).foot,k∈(rd V s (l.map f)).foot:=cut_rd (a:=0) (Nat.zero_le _) hb
theorem RoOk.roC {LC RoC:List Sp} {A B:Sp} (i:Nat) (hi:c.Ro[i]?=some B) (hAB:∀ w,B.holds w→A.holds w∧∀ k∈A.foot,k∈B.foot) (is:List Nat) (hL:LK.sel L is=LC) (h:RoOk c L LC RoC):RoOk c L LC (A :: RoC):=fun ok w hs C hC=>by
  rcases List.mem_cons.1 hC with rfl|hC
  · have h1:=RoOk.ro (RoC:=[]) i hi is hL RoOk.nil ok w hs B (by simp)
    exact ⟨(hAB w h1.1).1,fun k hk=>h1.2 k ((hAB w h1.1).2 k hk)⟩
  · exact h ok w hs C hC
end
end Go.LK
namespace Go.LK
open Go Go.RowKit
section
variable {c:Cx} {k:List It} {E:Env} {L:List Sp} {ty:TypeId} {v:Value} {x y:Operand} {T:TypeId}
theorem Pu.buildA {parts:List (Nat×Operand)} {n e s:Nat} (vs:List (Nat×Value)) (cs:List Value) {zv:Value} (hT:∀ w,(underlying T).run c.P w=.ok (.array n e) w) (hz:∀ w,(zeroValue T).run c.P w=.ok zv w) (hs:∀ w,(sizeOf e).run c.P w=.ok s w)
    (hp:parts.map (fun p=>(p.1,ev E p.2))=vs.map (fun p=>(p.1,some p.2))) (hf:Instr.fill (fun i=>some (i*s,s)) zv.cells vs=some cs.toArray):Pu c E (.build T parts.toArray) ty (.agg cs.toArray):=fun a w ha _ _ _ _=>by
  have hparts:parts.map (fun p=>(p.1,a.eval p.2))=vs:=by
    clear hf
    induction parts generalizing vs with
    | nil=>cases vs<;>simp_all
    | cons p parts ih =>
      cases vs with
      | nil=>simp at hp
      | cons q vs =>
        simp only [List.map_cons,List.cons.injEq,Prod.mk.injEq] at hp ⊢
        obtain ⟨⟨h1,h2⟩,h3⟩:=hp
        refine ⟨?_,ih vs h3⟩
        rw [ha.ev h2,h1]
  simp only [execOp,List.map_toArray]
  simp [Instr.build,hT,hz,hparts,hs,hf]
theorem Pu.indexK {n e s:Nat} {kd:IntKind} {m:Int} {cs:List Value} (vs:List Value) (hT:∀ w,(underlying T).run c.P w=.ok (.array n e) w) (hs:∀ w,(sizeOf e).run c.P w=.ok s w) (hag:∀ w,(isAgg e).run c.P w=.ok true w)
    (hx:ev E x=some (.agg cs.toArray)) (hy:ev E y=some (.int kd m)) (h0:0≤m) (h1:m < n) (hv:(cs.drop (m.toNat*s)).take s=vs):Pu c E (.index T x y) ty (.agg vs.toArray):=fun a w ha _ _ _ _=>by
  subst hv
  simp [execOp,ha.ev hx,ha.ev hy,Instr.index,asIntOf,hT,hs,h0,h1,part,hag]
theorem Pu.indexK1 {n e s:Nat} {kd:IntKind} {m:Int} {cs:List Value} (hT:∀ w,(underlying T).run c.P w=.ok (.array n e) w) (hs:∀ w,(sizeOf e).run c.P w=.ok s w) (hag:∀ w,(isAgg e).run c.P w=.ok false w)
    (hx:ev E x=some (.agg cs.toArray)) (hy:ev E y=some (.int kd m)) (h0:0≤m) (h1:m < n) (hv:cs[m.toNat*s]?=some v):Pu c E (.index T x y) ty v:=fun a w ha _ _ _ _=>by
  simp [execOp,ha.ev hx,ha.ev hy,Instr.index,asIntOf,hT,hs,h0,h1,part,hag,hv]
def vI (n:Int):Value:=.int .i64 n
def vS (l:List UInt8):Value:=str l
end
end Go.LK
namespace Go.LK
open Go Go.RowKit Go.ChangeShapes Go.WideShapes Go.ChangeAt
section
variable {H:Type} {enc:TypeId×Value→H} {P:Program} {W:World}
theorem cells_of_strs {w:World} {base:Nat} {sp:Nat→Bool} {held:Bool} {fuel:Nat} {t e:TypeId} {n:Nat} {cs:List Value} {zs:List (List UInt8)} {p:List MemPlace}
    (ht:P.underlying t=some (.array n e)) (he:P.underlying e=some .string) (hce:P.cellsOf e=1) (hct:P.cellsOf t=n)
    (h:DataW.trod enc P w base sp held fuel t cs=some ((DataW.agg (zs.map fun z=>DataW.lit (.string z))),p)):cs=zs.map vS:=by
  cases fuel with
  | zero=>simp [DataW.trod] at h
  | succ fuel =>
    simp only [DataW.trod,ht,hce,hct,Nat.mul_one] at h
    split at h
    · rename_i hl
      obtain ⟨xs,hm,hx⟩:=Option.map_eq_some_iff.1 h
      have hxs:xs.map (·.1)=zs.map fun z=>(DataW.lit (.string z):DataW H):=by
        have:=congrArg Prod.fst hx
        simpa using this
      have hxl:xs.length=n:=by simpa using Lib.mapM_length hm
      have hzl:zs.length=n:=by
        have:=congrArg List.length hxs
        simp at this
        omega
      apply List.ext_getElem?
      intro i
      by_cases hi:i < n
      · obtain ⟨b,hb,hf⟩:=Lib.mapM_at hm i i (by simp [hi])
        obtain ⟨z,hc,rfl,_⟩:=DataW.trod_string he hf
        have h1:cs[i]?=some (.string z):=by
          have:=congrArg (·[0]?) hc
          simpa [List.getElem?_take,List.getElem?_drop] using this
        have h2:(xs.map (·.1))[i]?=some (DataW.lit (.string z.data.toList):DataW H):=by simp [hb]
        rw [hxs] at h2
        simp only [List.getElem?_map,Option.map_eq_some_iff,DataW.lit.injEq,Lit.string.injEq] at h2
        obtain ⟨z',hz',h3⟩:=h2
        rw [h1,List.getElem?_map,hz',h3]
        exact congrArg some (str_of z)
      · rw [List.getElem?_eq_none (by omega),List.getElem?_eq_none (by simp;omega)]
    · cases h
end
end Go.LK
namespace Go.LK
open Go Go.RowKit
section
variable {c:Cx} {k:List It} {E:Env} {L:List Sp} {ops:Array Oper} {rest:List Oper} {ty:TypeId} {v V:Value} {x y z:Operand} {T t S D:TypeId}
theorem Pu.nilEq {e:TypeId} (hT:c.P.underlying T=some (.pointer e)) (hx:ev E x=some (.pointer none)):Pu c E (.binOp .eql T x (.const (.pointer none)) T) ty (.bool true):=fun a w h _ _ _ _=>by
  have h3:∀ d,(Op.equalIn (d+1) T (.pointer none) (.pointer none)).run c.P w=.ok true w:=fun d=>by simp [Op.equalIn,run_underlying hT]
  have h4:(binOp .eql T (.pointer none) (.pointer none)).run c.P w=.ok (.bool true) w:=by
    simp only [binOp]
    simp [Op.equal,Op.maxDepth,h3 9999]
  have h5:eqGuard .eql T x (.const (.pointer none)) (.pointer none) (.pointer none)=pure ():=by cases x<;>rfl
  have h2:a.eval (.const (.pointer none))=.pointer none:=rfl
  simp only [execOp,h.ev hx,h2,h5]
  simp [h4]
theorem Pu.someEq {e:TypeId} {ad:Addr} (hT:c.P.underlying T=some (.pointer e)) (hx:ev E x=some (.pointer (some ad))):Pu c E (.binOp .eql T x (.const (.pointer none)) T) ty (.bool false):=fun a w h _ _ _ _=>by
  have h3:∀ d,(Op.equalIn (d+1) T (.pointer (some ad)) (.pointer none)).run c.P w=.ok false w:=fun d=>by simp [Op.equalIn,run_underlying hT]
  have h4:(binOp .eql T (.pointer (some ad)) (.pointer none)).run c.P w=.ok (.bool false) w:=by
    simp only [binOp]
    simp [Op.equal,Op.maxDepth,h3 9999]
  have h5:eqGuard .eql T x (.const (.pointer none)) (.pointer (some ad)) (.pointer none)=pure ():=by cases x<;>rfl
  have h2:a.eval (.const (.pointer none))=.pointer none:=rfl
  simp only [execOp,h.ev hx,h2,h5]
  simp [h4]
end
end Go.LK
namespace Go.LK
open Go Go.RowKit
def Valid (ops:Array Oper):Nat→Array Bool→List Nat→Prop
  | 0,_,σ=>σ=[]
  | _+1,listed,[]=>Region.ready .any ops listed=[]
  | m+1,listed,i :: σ=>i∈Region.ready .any ops listed∧Valid ops m (listed.setIfInBounds i true) σ
theorem valid_lin (ops:Array Oper):∀ (fuel t:Nat) (listed:Array Bool),Valid ops fuel listed (Region.linearise.go .any ops fuel t listed [])
  | 0,t,listed=>by simp [Region.linearise.go,Valid]
  | fuel+1,t,listed=>by
    simp only [Region.linearise.go]
    change Valid ops (fuel+1) listed (match (Region.ready .any ops listed)[t%(Region.ready .any ops listed).length]? with
      | some i=>Region.linearise.go .any ops fuel (t / (Region.ready .any ops listed).length) (listed.setIfInBounds i true) [i]
      | none=>[].reverse)
    cases hi:(Region.ready .any ops listed)[t%(Region.ready .any ops listed).length]? with
    | none =>
      cases hr:Region.ready .any ops listed with
      | nil=>simpa [Valid] using hr
      | cons x xs =>
        rw [hr] at hi
        have hlt:t%(x :: xs).length < (x :: xs).length:=Nat.mod_lt _ (by simp)
        simp at hi
        simp at hlt
        omega
    | some i =>
      simp only []
      rw [linearise_go_acc,List.reverse_singleton,List.singleton_append]
      exact ⟨List.mem_of_getElem? hi,valid_lin ops fuel _ _⟩
theorem any_valid {P:Program} {ops:Array Oper} {Q:Exit→Act→World→Prop}:∀ (fuel:Nat) (listed:Array Bool) (σ:List Nat) (a:Act) (w:World),wpAny P .any ops Q fuel listed a w→Valid ops fuel listed σ→wpOps P ops Q σ a w
  | 0,listed,σ,a,w,h,hv=>by
    cases hv
    simpa [wpOps] using h.2
  | fuel+1,listed,[],a,w,h,hv=>by simpa [wpOps] using h.1 hv
  | fuel+1,listed,i :: σ,a,w,h,hv=>by
    rw [wpOps_cons]
    exact wpOp_mono (fun a w h2=>any_valid fuel _ σ a w h2 hv.2) (h.2 i hv.1)
def waitOn (j:Nat) (o:Oper):Oper:={ o with after:=o.after.push ⟨j,.data⟩ }
def edge:Nat→Nat→List Oper→List Oper
  | _,_,[]=>[]
  | 0,j,o :: l=>waitOn j o :: l
  | i+1,j,o :: l=>o :: edge i j l
theorem edge_at:∀ (i j:Nat) (l:List Oper) (k:Nat),(edge i j l)[k]?=(l[k]?).map fun o=>if k=i then waitOn j o else o
  | _,_,[],k=>by simp [edge]
  | 0,j,o :: l,0=>by simp [edge]
  | 0,j,o :: l,k+1=>by simp [edge]
  | i+1,j,o :: l,0=>by simp [edge]
  | i+1,j,o :: l,k+1=>by
    rw [edge,List.getElem?_cons_succ,List.getElem?_cons_succ,edge_at i j l k]
    simp
theorem edge_len (i j:Nat) (l:List Oper):(edge i j l).length=l.length:=by
  induction l generalizing i with
  | nil=>cases i<;>rfl
  | cons o l ih=>cases i<;>simp [edge,ih]
theorem exec_wait (j:Nat) (o:Oper) (ev:Operand→Value):execOp ev (waitOn j o)=execOp ev o:=by cases o;rfl
theorem wp_wait {P:Program} {j:Nat} {o:Oper} {a:Act} {w:World} {K:Act→World→Prop} {Q:Exit→Act→World→Prop}:(waitOn j o).wp P a w K Q↔o.wp P a w K Q:=by
  unfold Oper.wp
  rw [exec_wait]
  cases o
  exact Iff.rfl
theorem asks_wait {P:Program} {j:Nat} {o:Oper} {a:Act} {w:World}:(waitOn j o).asks P a w↔o.asks P a w:=by
  unfold Oper.asks
  rw [exec_wait]
theorem yielded_edge (i j:Nat) (l:List Oper) (tmps:Array Value) (k:Nat):yielded (edge i j l).toArray tmps k=yielded l.toArray tmps k:=by
  unfold yielded
  have:((edge i j l).toArray[k]?).bind (·.dst)=(l.toArray[k]?).bind (·.dst):=by
    simp only [List.getElem?_toArray,edge_at]
    cases l[k]? with
    | none=>rfl
    | some o=>simp only [Option.map_some,Option.bind_some];split<;>rfl
  rw [this]
theorem wpOps_edge {P:Program} {Q:Exit→Act→World→Prop} (i j:Nat) (l:List Oper):∀ (σ:List Nat) (a:Act) (w:World),wpOps P (edge i j l).toArray Q σ a w→wpOps P l.toArray Q σ a w
  | [],a,w,h=>by simpa [wpOps] using h
  | k :: σ,a,w,h=>by
    rw [wpOps_cons] at h ⊢
    have h1:wpOp P (edge i j l).toArray Q k (wpOps P l.toArray Q σ) a w:=wpOp_mono (fun a w h=>wpOps_edge i j l σ a w h) h
    unfold wpOp at h1 ⊢
    simp only [List.getElem?_toArray,edge_at] at h1 ⊢
    cases ho:l[k]? with
    | none=>simpa [ho] using h1
    | some o =>
      simp only [ho,Option.map_some] at h1 ⊢
      have hy:yielded (edge i j l).toArray a.tmps=yielded l.toArray a.tmps:=funext (yielded_edge i j l a.tmps)
      by_cases hk:k=i
      · rw [if_pos hk] at h1
        rw [hy] at h1
        have hw:Region.wanted (waitOn j o) (yielded l.toArray a.tmps)=Region.wanted o (yielded l.toArray a.tmps):=rfl
        rw [hw,wp_wait,asks_wait] at h1
        exact h1
      · rw [if_neg hk,hy] at h1
        exact h1
theorem ready_edge {i j:Nat} {l:List Oper} {listed:Array Bool} {k:Nat}:k∈Region.ready .any (edge i j l).toArray listed↔k∈Region.ready .any l.toArray listed∧(k=i→listed.getD j false=true):=by
  unfold Region.ready
  simp only [List.mem_filter,List.mem_range,List.size_toArray,edge_len,List.getElem?_toArray,edge_at,Bool.and_eq_true]
  by_cases hk:k=i
  · subst hk
    cases ho:l[k]? with
    | none=>simp
    | some o =>
      simp only [Option.map_some,if_true,Option.getD_some,waitOn,Array.all_push,Bool.and_eq_true,true_implies]
      have hb:(!Region.binds .any (⟨j,.data⟩:Edge))=false:=rfl
      simp only [hb,Bool.false_or]
      constructor
      · rintro ⟨h1,h2,h3,h4⟩;exact ⟨⟨h1,h2,h3⟩,h4⟩
      · rintro ⟨⟨h1,h2,h3⟩,h4⟩;exact ⟨h1,h2,h3,h4⟩
  · cases ho:l[k]? with
    | none=>simp [hk]
    | some o=>simp [hk]
theorem valid_edge {i j:Nat} {l:List Oper}:∀ (m:Nat) (listed:Array Bool) (σ:List Nat),Valid l.toArray m listed σ→(∀ p q,σ=p++i :: q→j∈p∨listed.getD j false=true)→Valid (edge i j l).toArray m listed σ
  | 0,listed,σ,h,_=>h
  | m+1,listed,[],h,_=>by
    have h:Region.ready .any l.toArray listed=[]:=h
    change Region.ready .any (edge i j l).toArray listed=[]
    refine List.eq_nil_iff_forall_not_mem.2 fun k hk=>?_
    have:=(ready_edge.1 hk).1
    rw [h] at this
    cases this
  | m+1,listed,k :: σ,h,hg=>by
    refine ⟨ready_edge.2 ⟨h.1,fun hk=>?_⟩,valid_edge m _ σ h.2 fun p q hpq=>?_⟩
    · rcases hg [] σ (by rw [hk];rfl) with h1|h1
      · cases h1
      · exact h1
    · rcases hg (k :: p) q (by rw [hpq];rfl) with h1|h1
      · rcases List.mem_cons.1 h1 with rfl|h1
        · refine .inr ?_
          have hlt:j < listed.size:=by
            have:=h.1
            unfold Region.ready at this
            simp only [List.mem_filter,Bool.and_eq_true,Bool.not_eq_true'] at this
            by_cases hj:j < listed.size
            · exact hj
            · have h2:=this.2.1
              rw [Array.getD_eq_getD_getElem?,Array.getElem?_eq_none (by omega)] at h2
              cases h2
          rw [Array.getD_eq_getD_getElem?,Array.getElem?_setIfInBounds_self_of_lt hlt];rfl
        · exact .inl h1
      · refine .inr ?_
        rw [Array.getD_eq_getD_getElem?,Array.getElem?_setIfInBounds]
        split
        · split
          · rfl
          · rename_i hlt
            rw [Array.getD_eq_getD_getElem?,Array.getElem?_eq_none (by omega)] at h1
            cases h1
        · rw [←Array.getD_eq_getD_getElem?];exact h1
def A (c:Cx) (l:List Oper) (k:List It) (E:Env) (L:List Sp):Prop:=c.Ok→∀ a w,Has c.n a E→St c.w0 c.M L w→∀ σ,Valid l.toArray l.length (Array.replicate l.length false) σ→wpOps c.P l.toArray (c.Q k) σ a w
section
variable {c:Cx} {k:List It} {E:Env} {K L:List Sp} {l:List Oper}
theorem J.drawA {id:Nat} (hm:c.P.follows .mixedOrders=true) (h:A c l k E L):J c (.code (.region id l.toArray true) :: k) E L:=fun ok a w ha hs =>
  wp_region_draw fun t=>by
    simp only [Region.schedule,hm,Bool.true_or,if_true]
    have:=h ok a _ ha hs.drew' (Region.linearise .any l.toArray t) (by
      have:=valid_lin l.toArray l.toArray.size t (Array.replicate l.toArray.size false)
      simpa [Region.linearise] using this)
    exact this
theorem A.edge (i j:Nat) (hij:Nat.beq i j=false) (h1:A c (LK.edge i j l) k E L) (h2:A c (LK.edge j i l) k E L):A c l k E L:=fun ok a w ha hs σ hv=>by
  have hij:i≠j:=fun h=>by subst h;simp at hij
  by_cases hg:∀ p q,σ=p++i :: q→j∈p∨(Array.replicate l.length false).getD j false=true
  · refine wpOps_edge i j l σ a w (h1 ok a w ha hs σ ?_)
    rw [edge_len]
    exact valid_edge _ _ σ hv hg
  · refine wpOps_edge j i l σ a w (h2 ok a w ha hs σ ?_)
    rw [edge_len]
    refine valid_edge _ _ σ hv fun p' q' hp'=>?_
    simp only [Classical.not_forall,not_or] at hg
    obtain ⟨p,q,hp,hn,_⟩:=hg
    refine .inl ?_
    rw [hp] at hp'
    rcases List.append_eq_append_iff.1 hp' with ⟨r,rfl,h3⟩|⟨r,rfl,h3⟩
    · cases r with
      | nil=>simp at h3;exact absurd h3.1 hij
      | cons x r =>
        simp only [List.cons_append,List.cons.injEq] at h3
        rw [←h3.1];simp
    · cases r with
      | nil=>simp at h3;exact absurd h3.1.symm hij
      | cons x r =>
        simp only [List.cons_append,List.cons.injEq] at h3
        exact absurd (by rw [←h3.1];simp) hn
theorem A.mix (ord:List (Nat×Bool)) (is:List Nat) (K:List Sp) (hB:mixB l.toArray ord=true) (hn:is.Nodup) (hL:LK.sel L is=K)
    (h:Mx c l.toArray (fun E' L'=>J c k E' L') [] ord E K L):A c l k E L:=fun ok a w ha hs σ hv=>by
  have:=mix_sound (ok:=ok) hB (fun _ hs=>hL ▸ hs.sel hn) h ha hs
  refine any_valid _ _ σ a w this ?_
  simpa using hv
end
end Go.LK
namespace Go.LK
open Go Go.RowKit
def bun (As:List Sp):Sp where
  foot:=feet As
  holds w:=(∀ A∈As,A.holds w)∧As.Pairwise Dj
  lt w h k hk:=by
    obtain ⟨A,hA,hk⟩:=mem_feet.1 hk
    exact A.lt w (h.1 A hA) k hk
  loc w w' h hh:=⟨fun A hA=>A.loc w w' (fun k hk=>h k (mem_feet.2 ⟨A,hA,hk⟩)) (hh.1 A hA),hh.2⟩
def ros (As:List Sp):Sp where
  foot:=feet As
  holds w:=∀ A∈As,A.holds w
  lt w h k hk:=by
    obtain ⟨A,hA,hk⟩:=mem_feet.1 hk
    exact A.lt w (h A hA) k hk
  loc w w' h hh:=fun A hA=>A.loc w w' (fun k hk=>h k (mem_feet.2 ⟨A,hA,hk⟩)) (hh A hA)
theorem feet_bun {As R:List Sp}:feet (bun As :: R)=feet (As++R):=by rw [feet_cons,feet_append];rfl
theorem dj_bun {As:List Sp} {B:Sp}:Dj (bun As) B↔∀ A∈As,Dj A B:=by
  constructor
  · intro h A hA k hk hk'
    exact h k (mem_feet.2 ⟨A,hA,hk⟩) hk'
  · intro h k hk hk'
    obtain ⟨A,hA,hk⟩:=mem_feet.1 hk
    exact h A hA k hk hk'
theorem St.bun_iff {w0 w:World} {M:List Nat} {As R:List Sp}:St w0 M (bun As :: R) w↔St w0 M (As++R) w:=by
  constructor
  · intro h
    have h1:=h.at_ (bun As) (by simp)
    have h2:=List.pairwise_cons.1 h.nd
    refine ⟨h.fr,fun A hA=>?_,List.pairwise_append.2 ⟨h1.2,h2.2,fun A hA B hB=>dj_bun.1 (h2.1 B hB) A hA⟩,fun k hk=>h.mine k (by rw [feet_bun];exact hk)⟩
    rcases List.mem_append.1 hA with hA|hA
    · exact h1.1 A hA
    · exact h.at_ A (by simp [hA])
  · intro h
    have h2:=List.pairwise_append.1 h.nd
    refine ⟨h.fr,fun A hA=>?_,List.pairwise_cons.2 ⟨fun B hB=>dj_bun.2 fun A hA=>h2.2.2 A hA B hB,h2.2.1⟩,fun k hk=>h.mine k (by rw [feet_bun] at hk;exact hk)⟩
    rcases List.mem_cons.1 hA with rfl|hA
    · exact ⟨fun B hB=>h.at_ B (by simp [hB]),h2.1⟩
    · exact h.at_ A (by simp [hA])
def Re (L L':List Sp):Prop:=∀ w0 M w,St w0 M L w→St w0 M L' w
section
variable {L L' R As As1 As2:List Sp} {A B:Sp}
theorem Re.refl (L:List Sp):Re L L:=fun _ _ _ h=>h
theorem Re.trans {L1 L2 L3:List Sp} (h:Re L1 L2) (h':Re L2 L3):Re L1 L3:=fun w0 M w hs=>h' w0 M w (h w0 M w hs)
theorem Re.perm (h:L.Perm L'):Re L L':=fun _ _ _ hs=>hs.perm h
theorem Re.sel (is:List Nat) (hn:is.Nodup) (h:LK.sel L is=L'):Re L L':=fun _ _ _ hs=>h ▸ hs.sel hn
theorem Re.new:Re R (bun [] :: R):=fun _ _ _ hs=>St.bun_iff.2 hs
theorem Re.drop:Re (bun [] :: R) R:=fun _ _ _ hs=>St.bun_iff.1 hs
theorem Re.into:Re (B :: bun As :: R) (bun (As++[B]) :: R):=fun w0 M w hs=>by
  have h1:St w0 M (bun As :: B :: R) w:=hs.perm (List.Perm.swap _ _ _)
  have h2:=St.bun_iff.1 h1
  refine St.bun_iff.2 ?_
  rwa [List.append_assoc]
theorem Re.out (h:As=As1++B :: As2):Re (bun As :: R) (B :: bun (As1++As2) :: R):=fun w0 M w hs=>by
  subst h
  have h2:=St.bun_iff.1 hs
  have h3:St w0 M (B :: (As1++As2++R)) w:=h2.perm (by
    rw [List.append_assoc,List.append_assoc,List.cons_append]
    exact List.perm_middle)
  have h4:=St.bun_iff (As:=[B]) (R:=As1++As2++R) |>.2 h3
  have h5:St w0 M (As1++As2++[B]++R) w:=h3.perm (by
    rw [List.append_assoc (As1++As2)]
    exact (List.perm_middle (a:=B) (l₁:=As1++As2) (l₂:=R)).symm)
  have h6:St w0 M (bun (As1++As2) :: B :: R) w:=St.bun_iff.2 (by simpa using h5)
  exact h6.perm (List.Perm.swap _ _ _)
theorem Re.back (h:As=As1++B :: As2):Re (B :: bun (As1++As2) :: R) (bun As :: R):=fun w0 M w hs=>by
  subst h
  have h1:=Re.into w0 M w hs
  have h2:=St.bun_iff.1 h1
  refine St.bun_iff.2 (h2.perm ?_)
  refine List.Perm.append_right R ?_
  rw [List.append_assoc]
  exact (List.perm_middle (a:=B) (l₁:=As1) (l₂:=As2)).symm.symm.trans (by exact List.Perm.refl _) |> fun _=>by
    have:(As2++[B]).Perm (B :: As2):=List.perm_append_comm
    exact List.Perm.append_left As1 this
theorem Re.cons (h:Re L L'):Re (A :: L) (A :: L'):=fun w0 M w hs=>by
  have hA:St w0 M L w:=⟨hs.fr,fun B hB=>hs.at_ B (by simp [hB]),(List.pairwise_cons.1 hs.nd).2,fun k hk=>hs.mine k (by simp [hk])⟩
  have h2:=h w0 M w hA
  -- the footprint of L' lies in that of L: shown through a call that owns just these
  have hown:St w (feet L) L w:=⟨Frame.refl w _,hA.at_,hA.nd,fun k hk=>.inr hk⟩
  have h3:=h w (feet L) w hown
  have hsub:∀ k∈feet L',k∈feet L:=fun k hk=>by
    rcases h3.mine k hk with h4|h4
    · have:=h3.lt k hk;omega
    · exact h4
  refine ⟨hs.fr,fun B hB=>?_,List.pairwise_cons.2 ⟨fun B hB k hk hk'=>?_,h2.nd⟩,fun k hk=>?_⟩
  · rcases List.mem_cons.1 hB with rfl|hB
    · exact hs.at_ B (by simp)
    · exact h2.at_ B hB
  · obtain ⟨C,hC,hkC⟩:=mem_feet.1 (hsub k (mem_feet.2 ⟨B,hB,hk'⟩))
    exact (List.pairwise_cons.1 hs.nd).1 C hC k hk hkC
  · rw [feet_cons,List.mem_append] at hk
    rcases hk with hk|hk
    · exact hs.mine k (by simp [hk])
    · exact h2.mine k hk
end
section
variable {c:Cx} {k:List It} {E:Env} {L L':List Sp} {As:List Sp} {A:Sp} {v:Value} {s:Nat} {els:List (List Value)}
theorem J.re (h:Re L L') (hj:J c k E L'):J c k E L:=fun ok a w ha hs=>hj ok a w ha (h _ _ _ hs)
theorem J.ros (i:Nat) (hi:c.Ro[i]?=some (ros As)) (hm:A∈As) (h:J { c with Ro:=c.Ro++[A] } k E L):J c k E L:=fun ok a w ha hs =>
  h (fun B hB=>by
    rcases List.mem_append.1 hB with hB|hB
    · exact ok B hB
    · obtain rfl:=List.mem_singleton.1 hB
      obtain ⟨h1,h2⟩:=ok _ (List.mem_of_getElem? hi)
      exact ⟨h1 B hm,fun k hk=>h2 k (mem_feet.2 ⟨B,hm,hk⟩)⟩) a w ha hs
theorem bun_ros {α:Type} {f g:α→Sp} {l:List α} (h:∀ x∈l,∀ w,(f x).holds w→(g x).holds w∧∀ k∈(g x).foot,k∈(f x).foot):∀ w,(bun (l.map f)).holds w→(ros (l.map g)).holds w∧∀ k∈(ros (l.map g)).foot,k∈(bun (l.map f)).foot:=fun w hw=>by
  refine ⟨fun A hA=>?_,fun k hk=>?_⟩
  · obtain ⟨x,hx,rfl⟩:=List.mem_map.1 hA
    exact (h x hx w (hw.1 _ (List.mem_map.2 ⟨x,hx,rfl⟩))).1
  · obtain ⟨A,hA,hk⟩:=mem_feet.1 hk
    obtain ⟨x,hx,rfl⟩:=List.mem_map.1 hA
    exact mem_feet.2 ⟨f x,List.mem_map.2 ⟨x,hx,rfl⟩,(h x hx w (hw.1 _ (List.mem_map.2 ⟨x,hx,rfl⟩))).2 k hk⟩
end
end Go.LK
namespace Go.LK
open Go Go.RowKit
theorem range_cells {zc:Array Value} {s m:Nat} (hs:zc.size=s) (hs0:0 < s):(Array.range (m*s)).map (zc[·%zc.size]!)=(List.replicate m zc.toList).flatten.toArray:=by
  have hl:∀ x∈List.replicate m zc.toList,x.length=s:=fun x hx=>by rw [List.eq_of_mem_replicate hx];simpa using hs
  apply Array.ext_getElem?
  intro i
  by_cases hi:i < m*s
  · have h1:i / s < m:=Nat.div_lt_of_lt_mul (by rw [Nat.mul_comm];exact hi)
    have h2:i%s < zc.size:=by rw [hs];exact Nat.mod_lt _ hs0
    have h3:=flatten_at (i:=i / s) (e:=zc.toList) (j:=i%s) (u:=zc[i%s]) hl (by rw [List.getElem?_replicate,if_pos h1]) (by simp [h2])
    rw [show i / s*s+i%s=i from by rw [Nat.mul_comm];exact Nat.div_add_mod i s] at h3
    rw [Array.getElem?_map,Array.getElem?_range,List.getElem?_toArray,h3]
    simp only [hi,if_true,Option.map_some,hs]
    rw [getElem!_pos zc (i%s) h2]
  · rw [Array.getElem?_eq_none (by simp;omega),List.getElem?_toArray,List.getElem?_eq_none (by rw [length_flatten hl];simp;omega)]
theorem Lo.makeSliceN {α:Type} {z:α} {f:α→List Value} {t T ty:TypeId} {c:Cx} {E:Env} {L:List Sp} {m s bytes:Nat} {q:Int} {inf:TypeInfo} {zv:Value} {x y:Operand} (hT:∀ w,(underlying T).run c.P w=.ok (.slice t) w) (hi:∀ w,(typeInfo t).run c.P w=.ok inf w) (hb:inf.bytes=bytes) (hs:∀ w,(sizeOf t).run c.P w=.ok s w) (hz:∀ w,(zeroValue t).run c.P w=.ok zv w)
    (hx:ev E x=some (.int .i64 q)) (hy:ev E y=some (.int .i64 q)) (hq:q=(m:Int)) (hm:m≤1000000) (hbs:bytes≤1000) (hsz:zv.cells.size=s) (hs0:Nat.blt 0 s=true) (hs1:s≤1000) (hf:zv.cells.toList=f z) :
    Lo c E L (.makeSlice T x y) ty fun v L'=>L'=row v t s ((List.replicate m z).map f) :: L:=fun _ a w ha hst d pos af g K Q hK=>by
  subst hq
  have hs0' : 0 < s := Nat.lt_of_not_le fun h => by have : s = 0 := by omega
                                                    subst this;simp [Nat.blt] at hs0
  have hels:(List.replicate m z).map f=List.replicate m zv.cells.toList:=by rw [List.map_replicate,hf]
  have hle':∀ x∈List.replicate m zv.cells.toList,x.length=s:=fun x hx=>by rw [List.eq_of_mem_replicate hx];simpa using hsz
  have hw:IntKind.i64.wrap (m:Int)=m:=by
    simp [IntKind.wrap,IntKind.bits,IntKind.signed];omega
  have hb2:¬(281474976710656 < (bytes:Int)*(m:Int)):=by
    have h:bytes*m≤1000*1000000:=Nat.mul_le_mul hbs hm
    have h2:=Int.ofNat_le.2 h
    rw [Int.natCast_mul] at h2
    exact fun hc=>absurd (Int.lt_of_lt_of_le hc h2) (by decide)
  have hn2:¬((m:Int) < 0):=by omega
  have hrc:=range_cells (zc:=zv.cells) (m:=m) hsz hs0'
  refine wp_loud (v:=.slice (some ⟨w.heap.size,0,none⟩) m m) (w':=w.alloc (.cells (List.replicate m zv.cells.toList).flatten.toArray t)) ?_ (hK _ _ _ rfl (St.add hst (frame_alloc w _) ?_ (by simp [row,Value.ownBlock])))
  · by_cases hm0:m=0
    · subst hm0
      have hw0:IntKind.i64.wrap 0=0:=by decide
      simp [execOp,ha.ev hx,ha.ev hy,Instr.makeSlice,asInt,asIntOf,hT,hi,hb,hs,hw0,run_newRow]
      rw [show Array.range 0=#[] from Array.eq_empty_of_size_eq_zero (by simp)]
      simp
    · have hne:¬m*s=0:=Nat.mul_ne_zero hm0 (by omega)
      simp [execOp,ha.ev hx,ha.ev hy,Instr.makeSlice,asInt,asIntOf,hT,hi,hb,hs,hz,hw,hb2,hn2,hm0,(by omega:¬s=0),run_newRow]
      rw [hrc,if_neg hne]
  · rw [hels]
    refine ⟨?_,hle'⟩
    refine ⟨length_flatten hle',.inr ⟨w.heap.size,m,_,by simp,Nat.zero_le _,heap_alloc_new w _,by simp,?_,by simp [length_flatten hle'],?_⟩⟩
    · unfold maxLen;omega
    · rw [List.take_of_length_le (by simp [length_flatten hle'])]
end Go.LK
namespace Go.LK
open Go Go.RowKit
section
variable {c:Cx} {E:Env} {L:List Sp} {ty:TypeId} {x:Operand}
theorem Pu.makeFuncB {fn:Fn} {xs cap:List Operand} (us vs:List Value) (hx:xs.map (ev E)=us.map some) (hc:cap.map (ev E)=vs.map some):Pu c E (.makeFunc fn xs.toArray cap.toArray) ty (.func fn us.toArray vs.toArray):=fun a w ha _ _ _ _=>by
  simp [execOp,Instr.makeFunc,ha.evs hx,ha.evs hc]
theorem Lo.callB {f:FuncId} {xs:List Operand} {ts:Array TypeId} {first vs caps:List Value} {RoC LC:List Sp} {post:Value→List Sp→Prop} (hcall:∀ args w,(callFunc f args).run c.P w=.ok (.enter f args) w) (hx:ev E x=some (.func (.func f) first.toArray caps.toArray))
    (hxs:xs.map (ev E)=vs.map some) (ht:Tri c.P f (first++vs++caps).toArray RoC LC post) (is js:List Nat) (hn:(is++js).Nodup) (hL:LK.sel L is=LC) (R:List Sp) (hR:LK.sel L js=R) (hro:RoOk c L LC RoC) :
    Lo c E L (.call { callee:=.value x,args:=xs.toArray,argTypes:=ts }) ty fun v L'=>∃ Lp,post v Lp∧L'=Lp++R:=fun ok a w ha hst d pos af g K Q hK=>by
  have hsel:St c.w0 c.M (LC++R) w:=by
    have:=hst.sel hn
    rwa [show LK.sel L (is++js)=LC++R from by rw [←hL,←hR];simp [LK.sel]] at this
  have hpw:=List.pairwise_append.1 hsel.nd
  have hC:St w (feet LC) LC w:=⟨Frame.refl w _,fun A hA=>hsel.at_ A (by simp [hA]),hpw.1,fun k hk=>.inr hk⟩
  have hcalls:=ht w (hro ok w hst) hC
  have hexec:(execOp a.eval ⟨d,.call { callee:=.value x,args:=xs.toArray,argTypes:=ts },ty,pos,af,g⟩).run c.P w=.ok (.enter f (first++vs++caps).toArray) w:=by
    have h1:xs.map a.eval=vs:=ha.evs hxs
    simp [execOp,resolve,Deferred.ofValue,invoke,ha.ev hx,h1,hcall]
  unfold Oper.wp
  rw [hexec]
  refine Calls.mono hcalls ?_
  rintro e w' ⟨v,Lp,rfl,hp,hs'⟩
  exact hK v _ w' ⟨Lp,hp,rfl⟩ (hsel.step hs'.fr hs'.at_ hs'.nd (fun k hk=>(hs'.mine k hk).symm))
end
end Go.LK
namespace Go.LK
open Go Go.RowKit
section
variable {α:Type}
def getI:List (Int×α)→Int→Option α
  | [],_=>none
  | p :: m,k=>if p.1=k then some p.2 else getI m k
def putI:List (Int×α)→Int→α→List (Int×α)
  | [],k,v=>[(k,v)]
  | p :: m,k,v=>if p.1=k then (k,v) :: m else p :: putI m k v
def delI (m:List (Int×α)) (k:Int):List (Int×α):=m.filter fun p=>decide (p.1≠k)
def atI:List (Int×α)→Int→Nat→Option (Nat×α)
  | [],_,_=>none
  | p :: m,k,i=>if p.1=k then some (i,p.2) else atI m k (i+1)
def keysI (m:List (Int×α)):List Int:=m.map (·.1)
theorem getI_putI (m:List (Int×α)) (k k':Int) (v:α):getI (putI m k v) k'=if k=k' then some v else getI m k':=by
  induction m with
  | nil=>simp [putI,getI]
  | cons p m ih =>
    simp only [putI]
    by_cases h:p.1=k
    · rw [if_pos h];simp only [getI]
      by_cases h2:k=k'
      · simp [h2]
      · have:¬p.1=k':=fun e=>h2 (h.symm.trans e)
        simp [h2,this]
    · rw [if_neg h];simp only [getI,ih]
      by_cases h2:k=k'
      · subst h2;simp [h]
      · simp [h2]
theorem getI_delI (m:List (Int×α)) (k k':Int):getI (delI m k) k'=if k=k' then none else getI m k':=by
  induction m with
  | nil=>simp [delI,getI]
  | cons p m ih =>
    have h0:delI (p :: m) k=if p.1=k then delI m k else p :: delI m k:=by
      unfold delI;rw [List.filter_cons];by_cases h:p.1=k<;>simp [h]
    rw [h0]
    by_cases h:p.1=k
    · rw [if_pos h,ih];simp only [getI]
      by_cases h2:k=k'
      · simp [h2]
      · have:¬p.1=k':=fun e=>h2 (h.symm.trans e)
        simp [h2,this]
    · rw [if_neg h];simp only [getI,ih]
      by_cases h2:k=k'
      · subst h2;simp [h]
      · simp [h2]
theorem getI_some {m:List (Int×α)} {k:Int} {v:α} (h:getI m k=some v):(k,v)∈m:=by
  induction m with
  | nil=>simp [getI] at h
  | cons p m ih =>
    simp only [getI] at h
    by_cases hp:p.1=k
    · rw [if_pos hp] at h;cases h;rw [←hp];simp
    · rw [if_neg hp] at h;exact List.mem_cons_of_mem _ (ih h)
theorem getI_mem {m:List (Int×α)} {k:Int}:(∃ v,getI m k=some v)↔k∈keysI m:=by
  induction m with
  | nil=>simp [getI,keysI]
  | cons p m ih =>
    simp only [getI,keysI,List.map_cons,List.mem_cons]
    by_cases hp:p.1=k
    · simp [hp]
    · rw [if_neg hp,ih];constructor
      · exact fun h=>.inr h
      · rintro (h|h)
        · exact absurd h.symm hp
        · exact h
theorem getI_none {m:List (Int×α)} {k:Int}:getI m k=none↔k∉keysI m:=by
  rw [←getI_mem]
  cases getI m k<;>simp
theorem atI_get (m:List (Int×α)) (k:Int):∀ i,(atI m k i).map (·.2)=getI m k:=by
  induction m with
  | nil=>intro i;rfl
  | cons p m ih =>
    intro i
    simp only [atI,getI]
    split
    · rfl
    · exact ih (i+1)
theorem atI_some {m:List (Int×α)} {k:Int}:∀ {i j:Nat} {v u:α},atI m k i=some (j,v)→∃ n,j=i+n∧n < m.length∧(m[n]?).map (·.1)=some k∧putI m k u=m.set n (k,u):=by
  induction m with
  | nil=>intro i j v u h;simp [atI] at h
  | cons p m ih =>
    intro i j v u h
    simp only [atI] at h
    by_cases hp:p.1=k
    · rw [if_pos hp] at h
      simp at h
      exact ⟨0,by omega,by simp,by simp [hp],by simp [putI,hp]⟩
    · rw [if_neg hp] at h
      obtain ⟨n,h1,h2,h3,h4⟩:=ih (u:=u) h
      exact ⟨n+1,by omega,by simp;omega,by simpa using h3,by simp [putI,hp,h4]⟩
theorem atI_none {m:List (Int×α)} {k:Int}:∀ {i:Nat} {u:α},atI m k i=none→putI m k u=m++[(k,u)]∧k∉keysI m:=by
  induction m with
  | nil=>intro i u _;exact ⟨rfl,by simp [keysI]⟩
  | cons p m ih =>
    intro i u h
    simp only [atI] at h
    by_cases hp:p.1=k
    · rw [if_pos hp] at h;cases h
    · rw [if_neg hp] at h
      obtain ⟨h1,h2⟩:=ih (u:=u) h
      refine ⟨by simp [putI,hp,h1],?_⟩
      simp only [keysI,List.map_cons,List.mem_cons,not_or]
      exact ⟨fun e=>hp e.symm,h2⟩
theorem del_erase {m:List (Int×α)} {k:Int}:∀ {i j:Nat} {v:α},(keysI m).Nodup→atI m k i=some (j,v)→∃ n,j=i+n∧n < m.length∧delI m k=m.eraseIdx n:=by
  induction m with
  | nil=>intro i j v _ h;simp [atI] at h
  | cons p m ih =>
    intro i j v hn h
    simp only [atI] at h
    have hn':=List.nodup_cons.1 hn
    by_cases hp:p.1=k
    · rw [if_pos hp] at h
      simp at h
      refine ⟨0,by omega,by simp,?_⟩
      unfold delI
      rw [List.filter_cons,if_neg (by simp [hp])]
      simp only [List.eraseIdx_cons_zero]
      refine List.filter_eq_self.2 fun q hq=>?_
      have:q.1≠k:=fun e=>hn'.1 (List.mem_map.2 ⟨q,hq,by simp [e,hp]⟩)
      simp [this]
    · rw [if_neg hp] at h
      obtain ⟨n,h1,h2,h3⟩:=ih hn'.2 h
      refine ⟨n+1,by omega,by simp;omega,?_⟩
      unfold delI at h3 ⊢
      rw [List.filter_cons,if_pos (by simp [hp]),h3]
      rfl
theorem del_none {m:List (Int×α)} {k:Int} (h:k∉keysI m):delI m k=m:=List.filter_eq_self.2 fun q hq=>by
  have:q.1≠k:=fun e=>h (by rw [←e];exact List.mem_map.2 ⟨q,hq,rfl⟩)
  simp [this]
theorem keysI_cons {p:Int×α} {m:List (Int×α)}:keysI (p :: m)=p.1 :: keysI m:=rfl
theorem keys_put_in {m:List (Int×α)} {k:Int} {v:α} (h:k∈keysI m):keysI (putI m k v)=keysI m:=by
  induction m with
  | nil=>simp [keysI] at h
  | cons p m ih =>
    simp only [putI]
    by_cases hp:p.1=k
    · rw [if_pos hp,keysI_cons,keysI_cons,hp]
    · rw [if_neg hp,keysI_cons,keysI_cons]
      rw [keysI_cons,List.mem_cons] at h
      rcases h with h|h
      · exact absurd h.symm hp
      · rw [ih h]
theorem keys_put_out {m:List (Int×α)} {k:Int} {v:α} (h:k∉keysI m):keysI (putI m k v)=keysI m++[k]:=by
  induction m with
  | nil=>rfl
  | cons p m ih =>
    rw [keysI_cons,List.mem_cons,not_or] at h
    simp only [putI]
    rw [if_neg (fun e=>h.1 e.symm),keysI_cons,keysI_cons,ih h.2]
    rfl
theorem atI_nokey {m:List (Int×α)} {k:Int}:∀ {i:Nat},atI m k i=none→k∉keysI m:=by
  induction m with
  | nil=>intro i _;simp [keysI]
  | cons p m ih =>
    intro i h
    simp only [atI] at h
    by_cases hp:p.1=k
    · rw [if_pos hp] at h;cases h
    · rw [if_neg hp] at h
      simp only [keysI,List.map_cons,List.mem_cons,not_or]
      exact ⟨fun e=>hp e.symm,ih h⟩
theorem nodup_put {m:List (Int×α)} {k:Int} {v:α} (h:(keysI m).Nodup):(keysI (putI m k v)).Nodup:=by
  by_cases hk:k∈keysI m
  · rw [keys_put_in hk];exact h
  · rw [keys_put_out hk]
    exact List.nodup_append.2 ⟨h,by simp,fun a ha b hb=>by simp at hb;subst hb;exact fun e=>hk (e ▸ ha)⟩
theorem nodup_del {m:List (Int×α)} {k:Int} (h:(keysI m).Nodup):(keysI (delI m k)).Nodup:=List.Sublist.nodup (List.Sublist.map _ List.filter_sublist) h
theorem atM_I {f:α→Value} (m:List (Int×α)) (k:Int):∀ i,atM (m.map fun p=>([p.1],f p.2)) [k] i=(atI m k i).map fun q=>(q.1,f q.2):=by
  induction m with
  | nil=>intro i;rfl
  | cons p m ih =>
    intro i
    simp only [List.map_cons,atM,atI,List.cons.injEq,and_true]
    split
    · rfl
    · exact ih (i+1)
end
theorem map_erase {α β:Type} {g:α→β}:∀ {l:List α} {i:Nat},(l.eraseIdx i).map g=(l.map g).eraseIdx i
  | [],_=>rfl
  | _ :: _,0=>rfl
  | a :: l,i+1=>by simp [map_erase (l:=l) (i:=i)]
structure MapI {α:Type} (f:α→Value) (m:List (Int×α)) (arr:Array MapEntry) (clock:Nat):Prop where
  eq:arr.toList.map (fun e=>(e.key,e.val))=m.map (fun p=>(Value.int .i64 p.1,f p.2))
  keys:(keysI m).Nodup
  born:(arr.toList.map (·.born)).Nodup
  old:∀ x∈arr.toList,x.born < clock
def mi {α:Type} (b:Nat) (f:α→Value) (m:List (Int×α)):Sp where
  foot:=[b]
  holds w:=∃ arr clock,w.heap[b]?=some (.map arr clock)∧MapI f m arr clock
  lt w h k hk:=by
    obtain ⟨arr,clock,h1,_⟩:=h
    simp at hk;subst hk
    exact (Array.getElem?_eq_some_iff.1 h1).1
  loc w w' hw h:=by
    obtain ⟨arr,clock,h1,h2⟩:=h
    exact ⟨arr,clock,by rw [hw b (by simp)];exact h1,h2⟩
def miV {α:Type} (v:Value) (f:α→Value) (m:List (Int×α)):Sp where
  foot:=match v with|.map (some b)=>[b]|_=>[]
  holds w:=(v=.map none∧m=[])∨∃ b,v=.map (some b)∧(mi b f m).holds w
  lt w h k hk:=by
    rcases h with ⟨rfl,_⟩|⟨b,rfl,h⟩
    · simp at hk
    · exact (mi b f m).lt w h k hk
  loc w w' hw h:=by
    rcases h with h|⟨b,rfl,h⟩
    · exact .inl h
    · exact .inr ⟨b,rfl,(mi b f m).loc w w' hw h⟩
section
variable {α:Type} {f:α→Value} {m:List (Int×α)} {arr:Array MapEntry} {clock:Nat}
theorem MapI.len (h:MapI f m arr clock):arr.size=m.length:=by
  have:=congrArg List.length h.eq
  simpa using this
theorem MapI.find {P:Program} {t:TypeId} (h:MapI f m arr clock) (ht:P.underlying t=some (.int .i64)) (w:World) (k:Int):(Instr.findKey t (.int .i64 k) arr.toList).run P w=.ok ((atI m k 0).map fun q=>(q.1,f q.2)) w:=by
  have h1:=(KT.int ht).find w [k] arr.toList (m.map fun p=>([p.1],f p.2)) (by rw [h.eq,List.map_map];rfl) rfl (fun p hp=>by obtain ⟨q,_,rfl⟩:=List.mem_map.1 hp;rfl)
  rw [atM_I] at h1
  exact h1
theorem MapI.put (h:MapI f m arr clock) (k:Int) (u:α):match atI m k 0 with
    | some (j,_)=>j < arr.size∧(arr[j]?).map (·.key)=some (.int .i64 k)∧MapI f (putI m k u) (arr.modify j fun e=>{ e with key:=.int .i64 k,val:=f u }) clock
    | none=>MapI f (putI m k u) (arr.push { key:=.int .i64 k,val:=f u,born:=clock }) (clock+1):=by
  have hlen:=h.len
  cases hat:atI m k 0 with
  | none =>
    obtain ⟨hs,hk⟩:=atI_none (u:=u) hat
    refine ⟨?_,nodup_put h.keys,?_,?_⟩
    · rw [hs];simp [h.eq]
    · rw [Array.toList_push,List.map_append]
      refine List.nodup_append.2 ⟨h.born,by simp,fun a ha b hb=>?_⟩
      obtain ⟨x,hx,rfl⟩:=List.mem_map.1 ha
      simp at hb;subst hb
      have:=h.old x hx
      omega
    · intro x hx
      rw [Array.toList_push,List.mem_append] at hx
      rcases hx with hx|hx
      · have:=h.old x hx;omega
      · simp at hx;subst hx;simp
  | some p =>
    obtain ⟨j,v⟩:=p
    obtain ⟨q,hj,hq,hqk,hs⟩:=atI_some (u:=u) hat
    have hjq:j=q:=by omega
    subst hjq
    have hja:j < arr.size:=by omega
    have h4:(arr.toList.map (fun e=>(e.key,e.val)))[j]?=(m.map (fun p=>(Value.int .i64 p.1,f p.2)))[j]?:=by rw [h.eq]
    rw [List.getElem?_map,List.getElem?_map,Array.getElem?_toList,Array.getElem?_eq_getElem hja,List.getElem?_eq_getElem hq] at h4
    rw [List.getElem?_eq_getElem hq] at hqk
    simp at h4 hqk
    have hb:(arr.modify j fun e=>{ e with key:=Value.int .i64 k,val:=f u }).toList.map (·.born)=arr.toList.map (·.born):=by
      apply List.ext_getElem?
      intro i
      simp only [List.getElem?_map,Array.getElem?_toList,Array.getElem?_modify]
      by_cases hij:j=i
      · subst hij;simp [hja]
      · simp [hij]
    refine ⟨hja,by rw [Array.getElem?_eq_getElem hja];simp [h4.1,hqk],?_,nodup_put h.keys,by rw [hb];exact h.born,?_⟩
    · rw [hs]
      apply List.ext_getElem?
      intro i
      have h5:(arr.toList.map (fun e=>(e.key,e.val)))[i]?=(m.map (fun p=>(Value.int .i64 p.1,f p.2)))[i]?:=by rw [h.eq]
      simp only [List.getElem?_map,Array.getElem?_toList,Array.getElem?_modify,List.getElem?_set] at h5 ⊢
      by_cases hij:j=i
      · subst hij
        simp [hja,hq]
      · simp [hij,h5]
    · intro x hx
      have hx2:x.born∈(arr.modify j fun e=>{ e with key:=Value.int .i64 k,val:=f u }).toList.map (·.born):=List.mem_map.2 ⟨x,hx,rfl⟩
      rw [hb] at hx2
      obtain ⟨y,hy,he⟩:=List.mem_map.1 hx2
      rw [←he];exact h.old y hy
theorem MapI.del (h:MapI f m arr clock) (k:Int):match atI m k 0 with
    | some (j,_)=>MapI f (delI m k) (arr.eraseIdxIfInBounds j) clock
    | none=>MapI f (delI m k) arr clock:=by
  have hlen:=h.len
  cases hat:atI m k 0 with
  | none =>
    have hk2:=atI_nokey hat
    rw [del_none hk2];exact h
  | some p =>
    obtain ⟨j,v⟩:=p
    obtain ⟨n,hj,hn,hd⟩:=del_erase h.keys hat
    have hjn:j=n:=by omega
    subst hjn
    have hja:j < arr.size:=by omega
    have ht:(arr.eraseIdxIfInBounds j).toList=arr.toList.eraseIdx j:=by
      rw [Array.eraseIdxIfInBounds,dif_pos hja,Array.toList_eraseIdx]
    have hsub:List.Sublist (arr.toList.eraseIdx j) arr.toList:=List.eraseIdx_sublist _ _
    refine ⟨?_,nodup_del h.keys,?_,?_⟩
    · rw [ht,hd,map_erase,map_erase,h.eq]
    · rw [ht];exact List.Sublist.nodup (List.Sublist.map _ hsub) h.born
    · intro x hx
      rw [ht] at hx
      exact h.old x (hsub.mem hx)
theorem MapI.nil:MapI f [] #[] clock:=⟨rfl,by simp [keysI],by simp,by simp⟩
end
section
variable {α:Type} {f:α→Value} {m:List (Int×α)} {c:Cx} {E:Env} {L:List Sp} {ty T k e:TypeId} {x y z:Operand} {b:Nat}
theorem Lo.makeMapI (f:α→Value):Lo c E L (.makeMap T none) ty fun v L'=>∃ b,v=.map (some b)∧L'=mi b f [] :: L:=fun _ a w _ hs d pos af g K Q hK =>
  wp_loud (v:=.map (some w.heap.size)) (w':=w.alloc (.map #[] 0)) (by simp [execOp,run_makeMap])
    (hK _ _ _ ⟨_,rfl,rfl⟩ (hs.add (frame_alloc w _) ⟨#[],0,heap_alloc_new w _,MapI.nil⟩ (by simp [mi])))
inductive Mc (c:Cx) (L:List Sp) (v:Value) {α:Type} (f:α→Value) (m:List (Int×α)):Prop
  | own (i:Nat) (b:Nat) (hv:v=.map (some b)) (hi:L[i]?=some (mi b f m))
  | ro (i:Nat) (b:Nat) (hv:v=.map (some b)) (hi:c.Ro[i]?=some (mi b f m))
  | nil (hv:v=.map none) (hm:m=[])
  | roV (i:Nat) (hi:c.Ro[i]?=some (miV v f m))
theorem Mc.holds {v:Value} (h:Mc c L v f m) (ok:c.Ok) {w:World} (hs:St c.w0 c.M L w):(miV v f m).holds w:=by
  cases h with
  | own i b hv hi=>exact .inr ⟨b,hv,hs.at_ _ (List.mem_of_getElem? hi)⟩
  | ro i b hv hi=>exact .inr ⟨b,hv,c.ro ok hs hi⟩
  | nil hv hm=>exact .inl ⟨hv,hm⟩
  | roV i hi=>exact c.ro ok hs hi
theorem run_lookI {P:Program} {w:World} {v zv:Value} {key:Int} (hT:P.underlying T=some (.map k e)) (hk:P.underlying k=some (.int .i64)) (hz:∀ w,(zeroValue e).run P w=.ok zv w) (hm:(miV v f m).holds w) (ok:Bool) :
    (Instr.lookup T v (.int .i64 key) ok).run P w=.ok (if ok then .tuple #[((getI m key).map f).getD zv,.bool (getI m key).isSome] else ((getI m key).map f).getD zv) w:=by
  have hc:∀ em,(Instr.checkKey em 10000 k (.int .i64 key)).run P w=.ok () w:=fun em=>(KT.int hk).check w em [key] rfl
  rcases hm with ⟨rfl,rfl⟩|⟨b,rfl,arr,clock,h1,hM⟩
  · have hf:(Instr.findKey k (.int .i64 key) []).run P w=.ok none w:=by simp [Instr.findKey,run_underlying hk,Instr.findNow]
    simp only [Instr.lookup,Sem.run_bind,run_underlying hT,Result.andThen_ok,Sem.run_pure,hc,hf,hz,getI]
    cases ok<;>rfl
  · have hf:=hM.find hk w key
    have hg:(getObj b).run P w=.ok (.map arr clock) w:=by simp [getObj,Sem.run,h1]
    have ha:=atI_get m key 0
    simp only [Instr.lookup,Sem.run_bind,run_underlying hT,Result.andThen_ok,hg,hc,hf,Sem.run_pure]
    cases hat:atI m key 0 with
    | none=>rw [hat] at ha;cases ok<;>simp [←ha,hz]
    | some p=>obtain ⟨i,v⟩:=p;rw [hat] at ha;cases ok<;>simp [←ha]
theorem Qt.lkI {v zv V:Value} {key:Int} (hT:c.P.underlying T=some (.map k e)) (hk:c.P.underlying k=some (.int .i64)) (hz:∀ w,(zeroValue e).run c.P w=.ok zv w) (hx:ev E x=some v) (hy:ev E y=some (.int .i64 key)) (hm:Mc c L v f m) (hV:((getI m key).map f).getD zv=V) :
    Qt c E L (.lookup T x y false) ty V:=fun ok a w ha hs _ _ _ _=>by
  have h1:=run_lookI (w:=w) (key:=key) hT hk hz (hm.holds ok hs) false
  subst hV
  simp [execOp,ha.ev hx,ha.ev hy,h1]
theorem Qt.lkOk {v zv V:Value} {key:Int} {q:Bool} (hT:c.P.underlying T=some (.map k e)) (hk:c.P.underlying k=some (.int .i64)) (hz:∀ w,(zeroValue e).run c.P w=.ok zv w) (hx:ev E x=some v) (hy:ev E y=some (.int .i64 key)) (hm:Mc c L v f m) (hV:((getI m key).map f).getD zv=V) (hq:(getI m key).isSome=q) :
    Qt c E L (.lookup T x y true) ty (.tuple #[V,.bool q]):=fun ok a w ha hs _ _ _ _=>by
  have h1:=run_lookI (w:=w) (key:=key) hT hk hz (hm.holds ok hs) true
  subst hV hq
  simp [execOp,ha.ev hx,ha.ev hy,h1]
theorem Qt.lenI {v:Value} {ts:Array TypeId} (h0:ts[0]?=some T) (hT:c.P.underlying T=some (.map k e)) (hx:ev E x=some v) (hm:Mc c L v f m):Qt c E L (.call { callee:=.builtin .len,args:=#[x],argTypes:=ts }) ty (.int .i64 m.length):=fun ok a w ha hs _ _ _ _=>by
  have h:=hm.holds ok hs
  have:(Builtin.len_ ts ty #[v]).run c.P w=.ok (.int .i64 m.length) w:=by
    rcases h with ⟨rfl,rfl⟩|⟨b,rfl,arr,clock,h1,hM⟩
    · simp [Builtin.len_,h0,run_underlying hT,Result.andThen,goInt]
    · have hg:(getObj b).run c.P w=.ok (.map arr clock) w:=by simp [getObj,Sem.run,h1]
      simp [Builtin.len_,h0,run_underlying hT,Result.andThen,hg,goInt,hM.len]
  simp [execOp,resolve,invoke,ha.ev hx,builtin,this]
end
end Go.LK
