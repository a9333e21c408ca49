/-
  Functions bound to their first arguments (method values).
-/
import Derived.Test.YtdnalilglacjbaaLkD
namespace Go.LK
open Go Go.RowKit
section
variable {c : Cx} {E : Env} {L : List Sp} {ty : TypeId} {x : Operand}
theorem Pu.makeFuncB {fn : Fn} {xs cap : List Operand} (us vs : List Value) (hx : xs.map (ev E) = us.map some) (hc : cap.map (ev E) = vs.map some) : Pu c E (.makeFunc fn xs.toArray cap.toArray) ty (.func fn us.toArray vs.toArray) := fun a w ha _ _ _ _ => by
  simp [execOp, Instr.makeFunc, ha.evs hx, ha.evs hc]
theorem Lo.callB {f : FuncId} {xs : List Operand} {ts : Array TypeId} {first vs caps : List Value} {RoC LC : List Sp} {post : Value → List Sp → Prop} (hcall : ∀ args w, (callFunc f args).run c.P w = .ok (.enter f args) w) (hx : ev E x = some (.func (.func f) first.toArray caps.toArray))
    (hxs : xs.map (ev E) = vs.map some) (ht : Tri c.P f (first ++ vs ++ caps).toArray RoC LC post) (is js : List Nat) (hn : (is ++ js).Nodup) (hL : LK.sel L is = LC) (R : List Sp) (hR : LK.sel L js = R) (hro : RoOk c L LC RoC) :
    Lo c E L (.call { callee := .value x, args := xs.toArray, argTypes := ts }) ty fun v L' => ∃ Lp, post v Lp ∧ L' = Lp ++ R := fun ok a w ha hst d pos af g K Q hK => by
  have hsel : St c.w0 c.M (LC ++ R) w := by
    have := hst.sel hn
    rwa [show LK.sel L (is ++ js) = LC ++ R from by rw [← hL, ← hR]; simp [LK.sel]] at this
  have hpw := List.pairwise_append.1 hsel.nd
  have hC : St w (feet LC) LC w := ⟨Frame.refl w _, fun A hA => hsel.at_ A (by simp [hA]), hpw.1, fun k hk => .inr hk⟩
  have hcalls := ht w (hro ok w hst) hC
  have hexec : (execOp a.eval ⟨d, .call { callee := .value x, args := xs.toArray, argTypes := ts }, ty, pos, af, g⟩).run c.P w = .ok (.enter f (first ++ vs ++ caps).toArray) w := by
    have h1 : xs.map a.eval = vs := ha.evs hxs
    simp [execOp, resolve, Deferred.ofValue, invoke, ha.ev hx, h1, hcall]
  unfold Oper.wp
  rw [hexec]
  refine Calls.mono hcalls ?_
  rintro e w' ⟨v, Lp, rfl, hp, hs'⟩
  exact hK v _ w' ⟨Lp, hp, rfl⟩ (hsel.step hs'.fr hs'.at_ hs'.nd (fun k hk => (hs'.mine k hk).symm))
end
end Go.LK
