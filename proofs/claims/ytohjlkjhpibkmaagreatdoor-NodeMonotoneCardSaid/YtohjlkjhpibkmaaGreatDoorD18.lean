/-
  Walks, printed by a program of mine.
-/
import Derived.KernelRfl
import Derived.Test.YtohjlkjhpibkmaaGreatDoorD11
import Derived.Test.YtohjlkjhpibkmaaGreatDoorD16
import Derived.Test.YtohjlkjhpibkmaaGreatDoorD04
set_option linter.unusedSimpArgs false
set_option linter.unusedVariables false
namespace Go.Proofs.YtohjlkjhpibkmaaGreatDoor
open Go Go.LK Go.Proofs.Tryz
set_option maxRecDepth 100000
set_option maxHeartbeats 4000000
theorem kn_field (g:Nat) (i:Int) (h0:0≤i) (h1:i < 7):Tri prog 225 #[.pointer (some ⟨g,0,none⟩),.int .i64 i] [] [] (fun v L'=>v=.pointer (some ⟨g,0+i.toNat*1,none⟩)∧L'=[]):=by
 refine Tri.en func225 H ntmps225 H fun w0=>J.cc 15 H ?_
 refine J.cd H (fun p1=>?_) (fun p1=>?_)
 ·
  refine J.cc 7 H ?_
  exact J.r0 H H ⟨(by have hi_:i=0:=(by omega);subst hi_;rfl),H⟩
 refine J.cc 5 H ?_
 refine J.cd H (fun p2=>?_) (fun p2=>?_)
 ·
  refine J.cc 7 H ?_
  exact J.r0 H H ⟨(by have hi_:i=1:=(by omega);subst hi_;rfl),H⟩
 refine J.cc 5 H ?_
 refine J.cd H (fun p3=>?_) (fun p3=>?_)
 ·
  refine J.cc 7 H ?_
  exact J.r0 H H ⟨(by have hi_:i=2:=(by omega);subst hi_;rfl),H⟩
 refine J.cc 5 H ?_
 refine J.cd H (fun p4=>?_) (fun p4=>?_)
 ·
  refine J.cc 7 H ?_
  exact J.r0 H H ⟨(by have hi_:i=3:=(by omega);subst hi_;rfl),H⟩
 refine J.cc 5 H ?_
 refine J.cd H (fun p5=>?_) (fun p5=>?_)
 ·
  refine J.cc 7 H ?_
  exact J.r0 H H ⟨(by have hi_:i=4:=(by omega);subst hi_;rfl),H⟩
 refine J.cc 5 H ?_
 refine J.cd H (fun p6=>?_) (fun p6=>?_)
 ·
  refine J.cc 7 H ?_
  exact J.r0 H H ⟨(by have hi_:i=5:=(by omega);subst hi_;rfl),H⟩
 refine J.cc 9 H ?_
 exact J.r0 H H ⟨(by have hi_:i=6:=(by omega);subst hi_;rfl),H⟩
theorem kn_Check (a b c d e f g:Int) (m:Int):Tri prog 130 #[.agg #[.int .i64 a,.int .i64 b,.int .i64 c,.int .i64 d,.int .i64 e,.int .i64 f,.int .i64 g],.int .i64 m] [] [] (fun v L'=>v=.int .i64 (Kn.check [a,b,c,d,e,f,g] m)∧L'=[]):=by
 refine Tri.en func130 H ntmps130 H fun w0=>J.co 2 H<|O.l (Lo.bx H H) H ?_
 rintro _ _ ⟨g1,rfl,rfl⟩
 refine O.oo 8 H ?_
 refine O.sd 11 H (fun p2=>?_) (fun p2=>?_)
 ·
  refine O.oc 9 H ?_
  exact J.r0 H H ⟨(by rw [Kn.check_no (by omega)];rfl),H⟩
 refine O.oc 4 H ?_
 refine J.cd H (fun p3=>?_) (fun p3=>?_)
 ·
  refine J.cc 4 H ?_
  exact J.r0 H H ⟨(by rw [Kn.check_no (by omega)];rfl),H⟩
 refine J.co 4 H<|O.q (Qt.lv 0 A3 H H H) H<|O.p (Pu.buildA [(0,.int .i64 0),(1,.int .i64 b)] [.int .i64 0,.int .i64 b] U303 Y303 Z3 H (by kernel_rfl)) H<|O.p (Pu.buildA [(0,.int .i64 0),(1,.int .i64 10000)] [.int .i64 0,.int .i64 10000] U303 Y303 Z3 H (by kernel_rfl)) H<|O.p (Pu.buildA [(0,.int .i64 1),(1,.int .i64 99)] [.int .i64 1,.int .i64 99] U303 Y303 Z3 H (by kernel_rfl)) H<|O.p (Pu.buildA [(0,.int .i64 1),(1,.int .i64 100)] [.int .i64 1,.int .i64 100] U303 Y303 Z3 H (by kernel_rfl)) H<|O.oo 1 H<|O.p (Pu.buildA [(0,.int .i64 0),(1,.int .i64 m)] [.int .i64 0,.int .i64 m] U303 Y303 Z3 H (by kernel_rfl)) H<|O.p (Pu.buildA [(0,.int .i64 1),(1,.int .i64 32)] [.int .i64 1,.int .i64 32] U303 Y303 Z3 H (by kernel_rfl)) H<|O.p (Pu.buildA [(0,.int .i64 1),(1,.int .i64 32)] [.int .i64 1,.int .i64 32] U303 Y303 Z3 H (by kernel_rfl)) H<|O.p (Pu.buildA [(0,.agg #[.int .i64 0,.int .i64 b]),(1,.agg #[.int .i64 0,.int .i64 10000]),(2,.agg #[.int .i64 1,.int .i64 99]),(3,.agg #[.int .i64 1,.int .i64 100]),(4,.agg #[.int .i64 0,.int .i64 m]),(5,.agg #[.int .i64 1,.int .i64 32]),(6,.agg #[.int .i64 1,.int .i64 32])] [.int .i64 0,.int .i64 b,.int .i64 0,.int .i64 10000,.int .i64 1,.int .i64 99,.int .i64 1,.int .i64 100,.int .i64 0,.int .i64 m,.int .i64 1,.int .i64 32,.int .i64 1,.int .i64 32] U304 zeroValue304 Z303 H (by kernel_rfl)) H<|O.l (Lo.al zeroValue304 H) H ?_
 rintro _ _ ⟨g4,rfl,rfl⟩
 refine O.l0 (Lo.st 0 sizeOf304 H H H H H H H) ?_
 rintro _ _ rfl
 refine O.oo 4 H<|O.q (Qt.lva 0 isAgg304 sizeOf304 H H H) H<|O.oc 3 H ?_
 refine J.loop (X:=Nat) (fun ξ=>ξ≤7∧1≤m∧m≤128∧(1≤ξ→0≤a∧a≤b)∧(2≤ξ→0≤b∧b≤10000)∧(3≤ξ→1≤c∧c≤99)∧(4≤ξ→1≤d∧d≤100)∧(5≤ξ→0≤e∧e≤m)∧(6≤ξ→1≤f∧f≤32)∧(7≤ξ→1≤g∧g≤32)) (fun ξ=>[(2,.pointer (some ⟨g1,0,none⟩)),(26,.agg #[.int .i64 0,.int .i64 b,.int .i64 0,.int .i64 10000,.int .i64 1,.int .i64 99,.int .i64 1,.int .i64 100,.int .i64 0,.int .i64 m,.int .i64 1,.int .i64 32,.int .i64 1,.int .i64 32]),(27,.int .i64 (ξ:Int))]) (fun ξ=>[var g1 [.int .i64 a,.int .i64 b,.int .i64 c,.int .i64 d,.int .i64 e,.int .i64 f,.int .i64 g] 45]) (fun ξ=>7-ξ) 0 (show 0≤7∧1≤m∧m≤128∧(1≤0→0≤a∧a≤b)∧(2≤0→0≤b∧b≤10000)∧(3≤0→1≤c∧c≤99)∧(4≤0→1≤d∧d≤100)∧(5≤0→0≤e∧e≤m)∧(6≤0→1≤f∧f≤32)∧(7≤0→1≤g∧g≤32) from ⟨by omega,by omega,by omega,by omega,by omega,by omega,by omega,by omega,by omega,by omega⟩) ⟨H,H,(congrArg (fun z=>some (Value.int .i64 z)) (by first|rfl|omega:(0:Int)=(0:Int))),trivial⟩ [1] (by decide) H ?_
 rintro k hq5
 obtain ⟨hk,hm0,hm1,q1,q2,q3,q4,q5,q6,q7⟩:k≤7∧1≤m∧m≤128∧(1≤k→0≤a∧a≤b)∧(2≤k→0≤b∧b≤10000)∧(3≤k→1≤c∧c≤99)∧(4≤k→1≤d∧d≤100)∧(5≤k→0≤e∧e≤m)∧(6≤k→1≤f∧f≤32)∧(7≤k→1≤g∧g≤32):=hq5
 show J _ _ [(2,.pointer (some ⟨g1,0,none⟩)),(26,.agg #[.int .i64 0,.int .i64 b,.int .i64 0,.int .i64 10000,.int .i64 1,.int .i64 99,.int .i64 1,.int .i64 100,.int .i64 0,.int .i64 m,.int .i64 1,.int .i64 32,.int .i64 1,.int .i64 32]),(27,.int .i64 (k:Int))] [var g1 [.int .i64 a,.int .i64 b,.int .i64 c,.int .i64 d,.int .i64 e,.int .i64 f,.int .i64 g] 45]
 obtain rfl|rfl|rfl|rfl|rfl|rfl|rfl|rfl:k=0∨k=1∨k=2∨k=3∨k=4∨k=5∨k=6∨k=7:=by omega
 ·
  show J _ _ [(2,.pointer (some ⟨g1,0,none⟩)),(26,.agg #[.int .i64 0,.int .i64 b,.int .i64 0,.int .i64 10000,.int .i64 1,.int .i64 99,.int .i64 1,.int .i64 100,.int .i64 0,.int .i64 m,.int .i64 1,.int .i64 32,.int .i64 1,.int .i64 32]),(27,.int .i64 0)] [var g1 [.int .i64 a,.int .i64 b,.int .i64 c,.int .i64 d,.int .i64 e,.int .i64 f,.int .i64 g] 45]
  refine J.co 12 H<|O.p (Pu.indexK (cs:=[.int .i64 0,.int .i64 b,.int .i64 0,.int .i64 10000,.int .i64 1,.int .i64 99,.int .i64 1,.int .i64 100,.int .i64 0,.int .i64 m,.int .i64 1,.int .i64 32,.int .i64 1,.int .i64 32]) [.int .i64 0,.int .i64 b] U304 Z303 A303 H H (by decide) (by decide) H) H<|O.l (Lo.al Y303 H) H ?_
  rintro _ _ ⟨g6,rfl,rfl⟩
  refine O.oo 1 H<|O.l0 (Lo.st 0 Z303 H H H H H H H) ?_
  rintro _ _ rfl
  refine O.oo 4 H<|O.l (Lo.ca call225 (kn_field g1 0 (by omega) (by omega)) [] H H .nil) H ?_
  rintro _ _ ⟨_,⟨rfl,rfl⟩,rfl⟩
  refine O.oo 1 H<|O.q (Qt.lv 1 A3 H H H) H<|O.oo 5 H<|O.p (Pu.indexAddrK 0 U303 Z3 H H (by decide) (by decide) H) H<|O.q (Qt.lv 0 A3 H H H) H<|O.oo 2 H ?_
  refine O.sd 39 H (fun p8=>?_) (fun p8=>?_)
  ·
   refine O.oc 11 H ?_
   exact J.r0 H H ⟨(by rw [Kn.check_no (by omega)];rfl),H⟩
  refine O.oo 1 H<|O.gz (Pu.qt (Pu.indexAddrK 1 U303 Z3 H H (by decide) (by decide) H)) H H<|O.gz (Qt.lv 0 A3 H H H) H H<|O.oc 3 H ?_
  refine J.cd H (fun p9=>?_) (fun p9=>?_)
  ·
   refine J.cc 4 H ?_
   exact J.r0 H H ⟨(by rw [Kn.check_no (by omega)];rfl),H⟩
  refine J.co 3 H<|O.p (Pu.add' H H (by omega)) H<|O.oc 2 H ?_
  exact J.lp 1 (show 1≤7∧1≤m∧m≤128∧(1≤1→0≤a∧a≤b)∧(2≤1→0≤b∧b≤10000)∧(3≤1→1≤c∧c≤99)∧(4≤1→1≤d∧d≤100)∧(5≤1→0≤e∧e≤m)∧(6≤1→1≤f∧f≤32)∧(7≤1→1≤g∧g≤32) from ⟨by omega,by omega,by omega,by omega,by omega,by omega,by omega,by omega,by omega,by omega⟩) (show 7-1 < 7-0 from (by omega)) ⟨H,H,(congrArg (fun z=>some (Value.int .i64 z)) (by first|rfl|omega:(0+1:Int)=(1:Int))),trivial⟩ [1] (by decide) H
 ·
  show J _ _ [(2,.pointer (some ⟨g1,0,none⟩)),(26,.agg #[.int .i64 0,.int .i64 b,.int .i64 0,.int .i64 10000,.int .i64 1,.int .i64 99,.int .i64 1,.int .i64 100,.int .i64 0,.int .i64 m,.int .i64 1,.int .i64 32,.int .i64 1,.int .i64 32]),(27,.int .i64 1)] [var g1 [.int .i64 a,.int .i64 b,.int .i64 c,.int .i64 d,.int .i64 e,.int .i64 f,.int .i64 g] 45]
  refine J.co 12 H<|O.p (Pu.indexK (cs:=[.int .i64 0,.int .i64 b,.int .i64 0,.int .i64 10000,.int .i64 1,.int .i64 99,.int .i64 1,.int .i64 100,.int .i64 0,.int .i64 m,.int .i64 1,.int .i64 32,.int .i64 1,.int .i64 32]) [.int .i64 0,.int .i64 10000] U304 Z303 A303 H H (by decide) (by decide) H) H<|O.l (Lo.al Y303 H) H ?_
  rintro _ _ ⟨g10,rfl,rfl⟩
  refine O.oo 1 H<|O.l0 (Lo.st 0 Z303 H H H H H H H) ?_
  rintro _ _ rfl
  refine O.oo 4 H<|O.l (Lo.ca call225 (kn_field g1 1 (by omega) (by omega)) [] H H .nil) H ?_
  rintro _ _ ⟨_,⟨rfl,rfl⟩,rfl⟩
  refine O.oo 1 H<|O.q (Qt.lv 1 A3 H H H) H<|O.oo 5 H<|O.p (Pu.indexAddrK 0 U303 Z3 H H (by decide) (by decide) H) H<|O.q (Qt.lv 0 A3 H H H) H<|O.oo 2 H ?_
  refine O.sd 39 H (fun p12=>?_) (fun p12=>?_)
  ·
   refine O.oc 11 H ?_
   exact J.r0 H H ⟨(by rw [Kn.check_no (by omega)];rfl),H⟩
  refine O.oo 1 H<|O.gz (Pu.qt (Pu.indexAddrK 1 U303 Z3 H H (by decide) (by decide) H)) H H<|O.gz (Qt.lv 0 A3 H H H) H H<|O.oc 3 H ?_
  refine J.cd H (fun p13=>?_) (fun p13=>?_)
  ·
   refine J.cc 4 H ?_
   exact J.r0 H H ⟨(by rw [Kn.check_no (by omega)];rfl),H⟩
  refine J.co 3 H<|O.p (Pu.add' H H (by omega)) H<|O.oc 2 H ?_
  exact J.lp 2 (show 2≤7∧1≤m∧m≤128∧(1≤2→0≤a∧a≤b)∧(2≤2→0≤b∧b≤10000)∧(3≤2→1≤c∧c≤99)∧(4≤2→1≤d∧d≤100)∧(5≤2→0≤e∧e≤m)∧(6≤2→1≤f∧f≤32)∧(7≤2→1≤g∧g≤32) from ⟨by omega,by omega,by omega,by omega,by omega,by omega,by omega,by omega,by omega,by omega⟩) (show 7-2 < 7-1 from (by omega)) ⟨H,H,(congrArg (fun z=>some (Value.int .i64 z)) (by first|rfl|omega:(1+1:Int)=(2:Int))),trivial⟩ [1] (by decide) H
 ·
  show J _ _ [(2,.pointer (some ⟨g1,0,none⟩)),(26,.agg #[.int .i64 0,.int .i64 b,.int .i64 0,.int .i64 10000,.int .i64 1,.int .i64 99,.int .i64 1,.int .i64 100,.int .i64 0,.int .i64 m,.int .i64 1,.int .i64 32,.int .i64 1,.int .i64 32]),(27,.int .i64 2)] [var g1 [.int .i64 a,.int .i64 b,.int .i64 c,.int .i64 d,.int .i64 e,.int .i64 f,.int .i64 g] 45]
  refine J.co 12 H<|O.p (Pu.indexK (cs:=[.int .i64 0,.int .i64 b,.int .i64 0,.int .i64 10000,.int .i64 1,.int .i64 99,.int .i64 1,.int .i64 100,.int .i64 0,.int .i64 m,.int .i64 1,.int .i64 32,.int .i64 1,.int .i64 32]) [.int .i64 1,.int .i64 99] U304 Z303 A303 H H (by decide) (by decide) H) H<|O.l (Lo.al Y303 H) H ?_
  rintro _ _ ⟨g14,rfl,rfl⟩
  refine O.oo 1 H<|O.l0 (Lo.st 0 Z303 H H H H H H H) ?_
  rintro _ _ rfl
  refine O.oo 4 H<|O.l (Lo.ca call225 (kn_field g1 2 (by omega) (by omega)) [] H H .nil) H ?_
  rintro _ _ ⟨_,⟨rfl,rfl⟩,rfl⟩
  refine O.oo 1 H<|O.q (Qt.lv 1 A3 H H H) H<|O.oo 5 H<|O.p (Pu.indexAddrK 0 U303 Z3 H H (by decide) (by decide) H) H<|O.q (Qt.lv 0 A3 H H H) H<|O.oo 2 H ?_
  refine O.sd 39 H (fun p16=>?_) (fun p16=>?_)
  ·
   refine O.oc 11 H ?_
   exact J.r0 H H ⟨(by rw [Kn.check_no (by omega)];rfl),H⟩
  refine O.oo 1 H<|O.gz (Pu.qt (Pu.indexAddrK 1 U303 Z3 H H (by decide) (by decide) H)) H H<|O.gz (Qt.lv 0 A3 H H H) H H<|O.oc 3 H ?_
  refine J.cd H (fun p17=>?_) (fun p17=>?_)
  ·
   refine J.cc 4 H ?_
   exact J.r0 H H ⟨(by rw [Kn.check_no (by omega)];rfl),H⟩
  refine J.co 3 H<|O.p (Pu.add' H H (by omega)) H<|O.oc 2 H ?_
  exact J.lp 3 (show 3≤7∧1≤m∧m≤128∧(1≤3→0≤a∧a≤b)∧(2≤3→0≤b∧b≤10000)∧(3≤3→1≤c∧c≤99)∧(4≤3→1≤d∧d≤100)∧(5≤3→0≤e∧e≤m)∧(6≤3→1≤f∧f≤32)∧(7≤3→1≤g∧g≤32) from ⟨by omega,by omega,by omega,by omega,by omega,by omega,by omega,by omega,by omega,by omega⟩) (show 7-3 < 7-2 from (by omega)) ⟨H,H,(congrArg (fun z=>some (Value.int .i64 z)) (by first|rfl|omega:(2+1:Int)=(3:Int))),trivial⟩ [1] (by decide) H
 ·
  show J _ _ [(2,.pointer (some ⟨g1,0,none⟩)),(26,.agg #[.int .i64 0,.int .i64 b,.int .i64 0,.int .i64 10000,.int .i64 1,.int .i64 99,.int .i64 1,.int .i64 100,.int .i64 0,.int .i64 m,.int .i64 1,.int .i64 32,.int .i64 1,.int .i64 32]),(27,.int .i64 3)] [var g1 [.int .i64 a,.int .i64 b,.int .i64 c,.int .i64 d,.int .i64 e,.int .i64 f,.int .i64 g] 45]
  refine J.co 12 H<|O.p (Pu.indexK (cs:=[.int .i64 0,.int .i64 b,.int .i64 0,.int .i64 10000,.int .i64 1,.int .i64 99,.int .i64 1,.int .i64 100,.int .i64 0,.int .i64 m,.int .i64 1,.int .i64 32,.int .i64 1,.int .i64 32]) [.int .i64 1,.int .i64 100] U304 Z303 A303 H H (by decide) (by decide) H) H<|O.l (Lo.al Y303 H) H ?_
  rintro _ _ ⟨g18,rfl,rfl⟩
  refine O.oo 1 H<|O.l0 (Lo.st 0 Z303 H H H H H H H) ?_
  rintro _ _ rfl
  refine O.oo 4 H<|O.l (Lo.ca call225 (kn_field g1 3 (by omega) (by omega)) [] H H .nil) H ?_
  rintro _ _ ⟨_,⟨rfl,rfl⟩,rfl⟩
  refine O.oo 1 H<|O.q (Qt.lv 1 A3 H H H) H<|O.oo 5 H<|O.p (Pu.indexAddrK 0 U303 Z3 H H (by decide) (by decide) H) H<|O.q (Qt.lv 0 A3 H H H) H<|O.oo 2 H ?_
  refine O.sd 39 H (fun p20=>?_) (fun p20=>?_)
  ·
   refine O.oc 11 H ?_
   exact J.r0 H H ⟨(by rw [Kn.check_no (by omega)];rfl),H⟩
  refine O.oo 1 H<|O.gz (Pu.qt (Pu.indexAddrK 1 U303 Z3 H H (by decide) (by decide) H)) H H<|O.gz (Qt.lv 0 A3 H H H) H H<|O.oc 3 H ?_
  refine J.cd H (fun p21=>?_) (fun p21=>?_)
  ·
   refine J.cc 4 H ?_
   exact J.r0 H H ⟨(by rw [Kn.check_no (by omega)];rfl),H⟩
  refine J.co 3 H<|O.p (Pu.add' H H (by omega)) H<|O.oc 2 H ?_
  exact J.lp 4 (show 4≤7∧1≤m∧m≤128∧(1≤4→0≤a∧a≤b)∧(2≤4→0≤b∧b≤10000)∧(3≤4→1≤c∧c≤99)∧(4≤4→1≤d∧d≤100)∧(5≤4→0≤e∧e≤m)∧(6≤4→1≤f∧f≤32)∧(7≤4→1≤g∧g≤32) from ⟨by omega,by omega,by omega,by omega,by omega,by omega,by omega,by omega,by omega,by omega⟩) (show 7-4 < 7-3 from (by omega)) ⟨H,H,(congrArg (fun z=>some (Value.int .i64 z)) (by first|rfl|omega:(3+1:Int)=(4:Int))),trivial⟩ [1] (by decide) H
 ·
  show J _ _ [(2,.pointer (some ⟨g1,0,none⟩)),(26,.agg #[.int .i64 0,.int .i64 b,.int .i64 0,.int .i64 10000,.int .i64 1,.int .i64 99,.int .i64 1,.int .i64 100,.int .i64 0,.int .i64 m,.int .i64 1,.int .i64 32,.int .i64 1,.int .i64 32]),(27,.int .i64 4)] [var g1 [.int .i64 a,.int .i64 b,.int .i64 c,.int .i64 d,.int .i64 e,.int .i64 f,.int .i64 g] 45]
  refine J.co 12 H<|O.p (Pu.indexK (cs:=[.int .i64 0,.int .i64 b,.int .i64 0,.int .i64 10000,.int .i64 1,.int .i64 99,.int .i64 1,.int .i64 100,.int .i64 0,.int .i64 m,.int .i64 1,.int .i64 32,.int .i64 1,.int .i64 32]) [.int .i64 0,.int .i64 m] U304 Z303 A303 H H (by decide) (by decide) H) H<|O.l (Lo.al Y303 H) H ?_
  rintro _ _ ⟨g22,rfl,rfl⟩
  refine O.oo 1 H<|O.l0 (Lo.st 0 Z303 H H H H H H H) ?_
  rintro _ _ rfl
  refine O.oo 4 H<|O.l (Lo.ca call225 (kn_field g1 4 (by omega) (by omega)) [] H H .nil) H ?_
  rintro _ _ ⟨_,⟨rfl,rfl⟩,rfl⟩
  refine O.oo 1 H<|O.q (Qt.lv 1 A3 H H H) H<|O.oo 5 H<|O.p (Pu.indexAddrK 0 U303 Z3 H H (by decide) (by decide) H) H<|O.q (Qt.lv 0 A3 H H H) H<|O.oo 2 H ?_
  refine O.sd 39 H (fun p24=>?_) (fun p24=>?_)
  ·
   refine O.oc 11 H ?_
   exact J.r0 H H ⟨(by rw [Kn.check_no (by omega)];rfl),H⟩
  refine O.oo 1 H<|O.gz (Pu.qt (Pu.indexAddrK 1 U303 Z3 H H (by decide) (by decide) H)) H H<|O.gz (Qt.lv 0 A3 H H H) H H<|O.oc 3 H ?_
  refine J.cd H (fun p25=>?_) (fun p25=>?_)
  ·
   refine J.cc 4 H ?_
   exact J.r0 H H ⟨(by rw [Kn.check_no (by omega)];rfl),H⟩
  refine J.co 3 H<|O.p (Pu.add' H H (by omega)) H<|O.oc 2 H ?_
  exact J.lp 5 (show 5≤7∧1≤m∧m≤128∧(1≤5→0≤a∧a≤b)∧(2≤5→0≤b∧b≤10000)∧(3≤5→1≤c∧c≤99)∧(4≤5→1≤d∧d≤100)∧(5≤5→0≤e∧e≤m)∧(6≤5→1≤f∧f≤32)∧(7≤5→1≤g∧g≤32) from ⟨by omega,by omega,by omega,by omega,by omega,by omega,by omega,by omega,by omega,by omega⟩) (show 7-5 < 7-4 from (by omega)) ⟨H,H,(congrArg (fun z=>some (Value.int .i64 z)) (by first|rfl|omega:(4+1:Int)=(5:Int))),trivial⟩ [1] (by decide) H
 ·
  show J _ _ [(2,.pointer (some ⟨g1,0,none⟩)),(26,.agg #[.int .i64 0,.int .i64 b,.int .i64 0,.int .i64 10000,.int .i64 1,.int .i64 99,.int .i64 1,.int .i64 100,.int .i64 0,.int .i64 m,.int .i64 1,.int .i64 32,.int .i64 1,.int .i64 32]),(27,.int .i64 5)] [var g1 [.int .i64 a,.int .i64 b,.int .i64 c,.int .i64 d,.int .i64 e,.int .i64 f,.int .i64 g] 45]
  refine J.co 12 H<|O.p (Pu.indexK (cs:=[.int .i64 0,.int .i64 b,.int .i64 0,.int .i64 10000,.int .i64 1,.int .i64 99,.int .i64 1,.int .i64 100,.int .i64 0,.int .i64 m,.int .i64 1,.int .i64 32,.int .i64 1,.int .i64 32]) [.int .i64 1,.int .i64 32] U304 Z303 A303 H H (by decide) (by decide) H) H<|O.l (Lo.al Y303 H) H ?_
  rintro _ _ ⟨g26,rfl,rfl⟩
  refine O.oo 1 H<|O.l0 (Lo.st 0 Z303 H H H H H H H) ?_
  rintro _ _ rfl
  refine O.oo 4 H<|O.l (Lo.ca call225 (kn_field g1 5 (by omega) (by omega)) [] H H .nil) H ?_
  rintro _ _ ⟨_,⟨rfl,rfl⟩,rfl⟩
  refine O.oo 1 H<|O.q (Qt.lv 1 A3 H H H) H<|O.oo 5 H<|O.p (Pu.indexAddrK 0 U303 Z3 H H (by decide) (by decide) H) H<|O.q (Qt.lv 0 A3 H H H) H<|O.oo 2 H ?_
  refine O.sd 39 H (fun p28=>?_) (fun p28=>?_)
  ·
   refine O.oc 11 H ?_
   exact J.r0 H H ⟨(by rw [Kn.check_no (by omega)];rfl),H⟩
  refine O.oo 1 H<|O.gz (Pu.qt (Pu.indexAddrK 1 U303 Z3 H H (by decide) (by decide) H)) H H<|O.gz (Qt.lv 0 A3 H H H) H H<|O.oc 3 H ?_
  refine J.cd H (fun p29=>?_) (fun p29=>?_)
  ·
   refine J.cc 4 H ?_
   exact J.r0 H H ⟨(by rw [Kn.check_no (by omega)];rfl),H⟩
  refine J.co 3 H<|O.p (Pu.add' H H (by omega)) H<|O.oc 2 H ?_
  exact J.lp 6 (show 6≤7∧1≤m∧m≤128∧(1≤6→0≤a∧a≤b)∧(2≤6→0≤b∧b≤10000)∧(3≤6→1≤c∧c≤99)∧(4≤6→1≤d∧d≤100)∧(5≤6→0≤e∧e≤m)∧(6≤6→1≤f∧f≤32)∧(7≤6→1≤g∧g≤32) from ⟨by omega,by omega,by omega,by omega,by omega,by omega,by omega,by omega,by omega,by omega⟩) (show 7-6 < 7-5 from (by omega)) ⟨H,H,(congrArg (fun z=>some (Value.int .i64 z)) (by first|rfl|omega:(5+1:Int)=(6:Int))),trivial⟩ [1] (by decide) H
 ·
  show J _ _ [(2,.pointer (some ⟨g1,0,none⟩)),(26,.agg #[.int .i64 0,.int .i64 b,.int .i64 0,.int .i64 10000,.int .i64 1,.int .i64 99,.int .i64 1,.int .i64 100,.int .i64 0,.int .i64 m,.int .i64 1,.int .i64 32,.int .i64 1,.int .i64 32]),(27,.int .i64 6)] [var g1 [.int .i64 a,.int .i64 b,.int .i64 c,.int .i64 d,.int .i64 e,.int .i64 f,.int .i64 g] 45]
  refine J.co 12 H<|O.p (Pu.indexK (cs:=[.int .i64 0,.int .i64 b,.int .i64 0,.int .i64 10000,.int .i64 1,.int .i64 99,.int .i64 1,.int .i64 100,.int .i64 0,.int .i64 m,.int .i64 1,.int .i64 32,.int .i64 1,.int .i64 32]) [.int .i64 1,.int .i64 32] U304 Z303 A303 H H (by decide) (by decide) H) H<|O.l (Lo.al Y303 H) H ?_
  rintro _ _ ⟨g30,rfl,rfl⟩
  refine O.oo 1 H<|O.l0 (Lo.st 0 Z303 H H H H H H H) ?_
  rintro _ _ rfl
  refine O.oo 4 H<|O.l (Lo.ca call225 (kn_field g1 6 (by omega) (by omega)) [] H H .nil) H ?_
  rintro _ _ ⟨_,⟨rfl,rfl⟩,rfl⟩
  refine O.oo 1 H<|O.q (Qt.lv 1 A3 H H H) H<|O.oo 5 H<|O.p (Pu.indexAddrK 0 U303 Z3 H H (by decide) (by decide) H) H<|O.q (Qt.lv 0 A3 H H H) H<|O.oo 2 H ?_
  refine O.sd 39 H (fun p32=>?_) (fun p32=>?_)
  ·
   refine O.oc 11 H ?_
   exact J.r0 H H ⟨(by rw [Kn.check_no (by omega)];rfl),H⟩
  refine O.oo 1 H<|O.gz (Pu.qt (Pu.indexAddrK 1 U303 Z3 H H (by decide) (by decide) H)) H H<|O.gz (Qt.lv 0 A3 H H H) H H<|O.oc 3 H ?_
  refine J.cd H (fun p33=>?_) (fun p33=>?_)
  ·
   refine J.cc 4 H ?_
   exact J.r0 H H ⟨(by rw [Kn.check_no (by omega)];rfl),H⟩
  refine J.co 3 H<|O.p (Pu.add' H H (by omega)) H<|O.oc 2 H ?_
  exact J.lp 7 (show 7≤7∧1≤m∧m≤128∧(1≤7→0≤a∧a≤b)∧(2≤7→0≤b∧b≤10000)∧(3≤7→1≤c∧c≤99)∧(4≤7→1≤d∧d≤100)∧(5≤7→0≤e∧e≤m)∧(6≤7→1≤f∧f≤32)∧(7≤7→1≤g∧g≤32) from ⟨by omega,by omega,by omega,by omega,by omega,by omega,by omega,by omega,by omega,by omega⟩) (show 7-7 < 7-6 from (by omega)) ⟨H,H,(congrArg (fun z=>some (Value.int .i64 z)) (by first|rfl|omega:(6+1:Int)=(7:Int))),trivial⟩ [1] (by decide) H
 show J _ _ [(2,.pointer (some ⟨g1,0,none⟩)),(26,.agg #[.int .i64 0,.int .i64 b,.int .i64 0,.int .i64 10000,.int .i64 1,.int .i64 99,.int .i64 1,.int .i64 100,.int .i64 0,.int .i64 m,.int .i64 1,.int .i64 32,.int .i64 1,.int .i64 32]),(27,.int .i64 7)] [var g1 [.int .i64 a,.int .i64 b,.int .i64 c,.int .i64 d,.int .i64 e,.int .i64 f,.int .i64 g] 45]
 refine J.cc 11 H ?_
 exact J.r0 H H ⟨(by rw [Kn.check_yes (by omega)];rfl),H⟩
end Go.Proofs.YtohjlkjhpibkmaaGreatDoor
