/-
  Walks, printed by a program of mine (lk.py): each function meets its contract.
-/
import Derived.KernelRfl
import Derived.Test.YtnhfgnnpbipcnaaGreatDoorSIF
import Derived.Test.YtnhfgnnpbipcnaaGreatDoorSIE
import Derived.Test.YtnhfgnnpbipcnaaGreatDoorSiteA
import Derived.Test.YtnhfgnnpbipcnaaGreatDoorLkF
namespace Go.Proofs.YtnhfgnnpbipcnaaGreatDoor
open Go Go.LK
set_option linter.unusedSimpArgs false

set_option maxRecDepth 100000 in
set_option maxHeartbeats 4000000 in
theorem law30_awake  : Tri Tryz.prog 8 #[] [libW, var 0 (Hx.hexDigits.map valU8) 101, var 1 (Kn.names.map vS) 144] [] (fun v L' => v = .bool true ∧ L' = []) := by
  refine Tri.en F8 rfl K8 rfl fun w0 => ?_
  refine J.co 6 rfl ?_
  refine O.l (Lo.ca C9 (si_Usual 2 (by decide) (by decide)) [] rfl rfl .nil) rfl ?_
  rintro _ _ ⟨_, ⟨V1, l1, rfl, hd1, rfl⟩, rfl⟩
  refine O.oo 3 rfl ?_
  refine O.l (Lo.al Y25 rfl) rfl ?_
  rintro _ _ ⟨g3, rfl, rfl⟩
  refine O.one (Src.row 1 rfl) (fun hV4 => ?_)
  refine O.l0 (Lo.st 0 Z25 rfl rfl rfl rfl rfl (by simp only [List.all_cons, List.all_nil, Bool.and_true, hV4] <;> rfl) rfl) ?_
  rintro _ _ rfl
  refine O.oo 4 rfl ?_
  refine O.q (Qt.lva 0 A25 Z25 rfl rfl rfl) rfl ?_
  refine O.l (Lo.ca C16 (si_Text 2 4 1000 1 V1 l1 (by have h_ := Si.us_few hd1 (by decide); exact h_.1) (by have h_ := Si.us_few hd1 (by decide); exact h_.2) (Si.us_okS hd1 (by decide)) Si.us_I3 (by decide)) [] rfl rfl (.ro 0 rfl (.ro 2 rfl (.ro 1 rfl (.of 1 row_rd rfl rfl (.of 2 sg_ros rfl rfl .nil)))))) rfl ?_
  rintro _ _ ⟨_, ⟨rfl, rfl⟩, rfl⟩
  refine O.l (Lo.ca C19 (si_Parse (Si.text 2 4 1000 1 l1)) [] rfl rfl (.ro 0 rfl (.ro 1 rfl (.ro 2 rfl .nil)))) rfl ?_
  rintro _ _ ⟨_, ⟨b6, c6, r6, key6, sv6, l6, n6, e6, rfl, hp6, hb6, rfl⟩, rfl⟩
  have hsm6 := Si.same_parse hp6 (Si.us_back hd1 (by decide))
  refine O.oo 4 rfl ?_
  refine O.l (Lo.al Y25 rfl) rfl ?_
  rintro _ _ ⟨g8, rfl, rfl⟩
  refine O.one (Src.row 1 rfl) (fun hV9 => ?_)
  refine O.l0 (Lo.st 0 Z25 rfl rfl rfl rfl rfl (by simp only [List.all_cons, List.all_nil, Bool.and_true, hV9] <;> rfl) rfl) ?_
  rintro _ _ rfl
  refine O.oo 5 rfl ?_
  refine O.l (Lo.ca C19 (si_Parse ([35, 32, 110, 111, 110, 101, 10, 115, 105, 116, 101, 10])) [] rfl rfl (.ro 0 rfl (.ro 1 rfl (.ro 2 rfl .nil)))) rfl ?_
  rintro _ _ ⟨_, ⟨b10, c10, r10, key10, sv10, l10, n10, e10, rfl, hp10, hb10, rfl⟩, rfl⟩
  have hsm10 := Si.same_zero hp10 Si.aw_parse
  refine O.oo 4 rfl ?_
  refine O.l (Lo.al Y25 rfl) rfl ?_
  rintro _ _ ⟨g12, rfl, rfl⟩
  refine O.one (Src.row 1 rfl) (fun hV13 => ?_)
  refine O.l0 (Lo.st 0 Z25 rfl rfl rfl rfl rfl (by simp only [List.all_cons, List.all_nil, Bool.and_true, hV13] <;> rfl) rfl) ?_
  rintro _ _ rfl
  refine O.oo 8 rfl ?_
  refine O.gq (t := 27) rfl rfl rfl rfl (Qt.lva 6 A25 Z25 rfl rfl rfl) rfl ?_
  refine O.gl (t := 27) rfl rfl rfl rfl (Lo.ca C12 (si_Check 2 4 1000 1 V1 l1 (by have h_ := (Si.us_few hd1 (by decide)).1; omega) (fun s_ hs_ => by have h_ := (Si.us_few hd1 (by decide)).2 s_ hs_; omega)) [] rfl rfl (.of 7 row_rd rfl rfl (.of 8 sg_ros rfl rfl .nil))) rfl ?_
  rintro _ _ ⟨_, ⟨rfl, rfl⟩, rfl⟩
  refine O.oo 3 rfl ?_
  refine O.kt 32 rfl (decide_eq_true (Si.us_chk hd1 (by decide) (by decide))) ?_
  refine O.gq (t := 32) rfl rfl rfl rfl (Qt.lva 3 A25 Z25 rfl rfl rfl) rfl ?_
  refine O.gq (t := 32) rfl rfl rfl rfl (Qt.lva 6 A25 Z25 rfl rfl rfl) rfl ?_
  refine O.gl (t := 32) rfl rfl rfl rfl (Lo.ca C18 (si_Same b6 c6 r6 key6 sv6 l6 2 4 1000 1 V1 l1 (by have h_ := (hb6).1; omega) (fun s_ hs_ => by have h_ := (hb6).2 s_ hs_; omega) (by have h_ := (Si.us_few hd1 (by decide)).1; omega) (fun s_ hs_ => by have h_ := (Si.us_few hd1 (by decide)).2 s_ hs_; omega)) [] rfl rfl (.of 4 row_rd rfl rfl (.of 5 sg_ros rfl rfl (.of 7 row_rd rfl rfl (.of 8 sg_ros rfl rfl .nil))))) rfl ?_
  rintro _ _ ⟨_, ⟨rfl, rfl⟩, rfl⟩
  refine O.oo 2 rfl ?_
  refine O.kt 37 rfl hsm6.1 ?_
  refine O.oo 4 rfl ?_
  refine O.kt 41 rfl (decide_eq_true hsm6.2.1) ?_
  refine O.oo 4 rfl ?_
  refine O.kt 45 rfl (decide_eq_true hsm6.2.2) ?_
  refine O.oo 4 rfl ?_
  refine O.kt 49 rfl (decide_eq_true hsm10.2.1) ?_
  refine O.oo 4 rfl ?_
  refine O.kt 53 rfl (decide_eq_true hsm10.2.2) ?_
  refine O.gq (t := 53) rfl rfl rfl rfl (Qt.lva 6 A25 Z25 rfl rfl rfl) rfl ?_
  refine O.gl (t := 53) rfl rfl rfl rfl (Lo.ca C14 (si_Levels 2 4 1000 1 V1 l1) [] rfl rfl (.of 7 row_rd rfl rfl (.of 8 sg_ros rfl rfl .nil))) rfl ?_
  rintro _ _ ⟨_, ⟨rfl, rfl⟩, rfl⟩
  refine O.oc 4 rfl ?_
  exact J.r0 rfl rfl ⟨rfl, rfl⟩

end Go.Proofs.YtnhfgnnpbipcnaaGreatDoor
