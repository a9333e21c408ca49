/-
  NodeMonotone: from the walk to the row and its card.
-/
import Derived.Test.YtohjlkjhpibkmaaGreatDoorD07
import Derived.Test.YtohjlkjhpibkmaaGreatDoorD08
import Derived.Test.YtohjlkjhpibkmaaGreatDoorD09
import Derived.Test.YtohjlkjhpibkmaaGreatDoorD10
import Derived.Test.YtohjlkjhpibkmaaGreatDoorD28
import Derived.ProofKit
namespace Go.Proofs.YtohjlkjhpibkmaaGreatDoor
open Go Go.LK Go.ChangeShapes Go.WideShapes Go.ChangeAt Go.RowKit
theorem open_T45 {H:Type} {enc:TypeId×Value→H} {W:World} {cs:List Value} (h:Rdb enc Tryz.prog W 45 cs):∃ (x0:Int) (x1:Int) (x2:Int) (x3:Int) (x4:Int) (x5:Int) (x6:Int),cs=[.int .i64 x0,.int .i64 x1,.int .i64 x2,.int .i64 x3,.int .i64 x4,.int .i64 x5,.int .i64 x6]∧(LP.I64s [x0,x1,x2,x3,x4,x5,x6]):=by
  have h0:Rdb enc Tryz.prog W 3 ((cs.drop 0).take 1):=by
    have h_:Rdb enc Tryz.prog W 3 ((cs.drop 0).take (Tryz.prog.cellsOf 3)):=by
      exact h.field Tryz.underlying45 0 _ rfl
    rwa [show Tryz.prog.cellsOf 3=1 by kernel_rfl] at h_
  obtain ⟨x0,e0,b0⟩:=h0.int Tryz.underlying3
  have h1:Rdb enc Tryz.prog W 3 ((cs.drop 1).take 1):=by
    have h_:Rdb enc Tryz.prog W 3 ((cs.drop 1).take (Tryz.prog.cellsOf 3)):=by
      exact h.field Tryz.underlying45 1 _ rfl
    rwa [show Tryz.prog.cellsOf 3=1 by kernel_rfl] at h_
  obtain ⟨x1,e1,b1⟩:=h1.int Tryz.underlying3
  have h2:Rdb enc Tryz.prog W 3 ((cs.drop 2).take 1):=by
    have h_:Rdb enc Tryz.prog W 3 ((cs.drop 2).take (Tryz.prog.cellsOf 3)):=by
      exact h.field Tryz.underlying45 2 _ rfl
    rwa [show Tryz.prog.cellsOf 3=1 by kernel_rfl] at h_
  obtain ⟨x2,e2,b2⟩:=h2.int Tryz.underlying3
  have h3:Rdb enc Tryz.prog W 3 ((cs.drop 3).take 1):=by
    have h_:Rdb enc Tryz.prog W 3 ((cs.drop 3).take (Tryz.prog.cellsOf 3)):=by
      exact h.field Tryz.underlying45 3 _ rfl
    rwa [show Tryz.prog.cellsOf 3=1 by kernel_rfl] at h_
  obtain ⟨x3,e3,b3⟩:=h3.int Tryz.underlying3
  have h4:Rdb enc Tryz.prog W 3 ((cs.drop 4).take 1):=by
    have h_:Rdb enc Tryz.prog W 3 ((cs.drop 4).take (Tryz.prog.cellsOf 3)):=by
      exact h.field Tryz.underlying45 4 _ rfl
    rwa [show Tryz.prog.cellsOf 3=1 by kernel_rfl] at h_
  obtain ⟨x4,e4,b4⟩:=h4.int Tryz.underlying3
  have h5:Rdb enc Tryz.prog W 3 ((cs.drop 5).take 1):=by
    have h_:Rdb enc Tryz.prog W 3 ((cs.drop 5).take (Tryz.prog.cellsOf 3)):=by
      exact h.field Tryz.underlying45 5 _ rfl
    rwa [show Tryz.prog.cellsOf 3=1 by kernel_rfl] at h_
  obtain ⟨x5,e5,b5⟩:=h5.int Tryz.underlying3
  have h6:Rdb enc Tryz.prog W 3 ((cs.drop 6).take 1):=by
    have h_:Rdb enc Tryz.prog W 3 ((cs.drop 6).take (Tryz.prog.cellsOf 3)):=by
      exact h.field Tryz.underlying45 6 _ rfl
    rwa [show Tryz.prog.cellsOf 3=1 by kernel_rfl] at h_
  obtain ⟨x6,e6,b6⟩:=h6.int Tryz.underlying3
  have hI:LP.I64s [x0,x1,x2,x3,x4,x5,x6]:=by
    intro x hx
    simp only [List.mem_cons,List.not_mem_nil,or_false] at hx
    rcases hx with rfl|rfl|rfl|rfl|rfl|rfl|rfl<;>assumption
  have hc:cs=[.int .i64 x0,.int .i64 x1,.int .i64 x2,.int .i64 x3,.int .i64 x4,.int .i64 x5,.int .i64 x6]:=(List.drop_zero (l:=cs)).symm.trans (by rw [cut_next (m:=1) e0 rfl,cut_next (m:=2) e1 rfl,cut_next (m:=3) e2 rfl,cut_next (m:=4) e3 rfl,cut_next (m:=5) e4 rfl,cut_next (m:=6) e5 rfl,cut_next (m:=7) e6 rfl,cut_end (m:=7) (by rw [h.len Tryz.underlying45];kernel_rfl)];rfl)
  exact ⟨x0,x1,x2,x3,x4,x5,x6,hc,hI⟩
theorem open_T136 {H:Type} {enc:TypeId×Value→H} {W:World} {cs:List Value} (h:Rdb enc Tryz.prog W 136 cs):∃ (x0:Int) (x1:Int) (x2:Int) (x3:Int),cs=[.int .i64 x0,.int .i64 x1,.int .i64 x2,.int .i64 x3]∧(LP.I64s [x0,x1,x2,x3]):=by
  have h0:Rdb enc Tryz.prog W 3 ((cs.drop 0).take 1):=by
    have h_:Rdb enc Tryz.prog W 3 ((cs.drop 0).take (Tryz.prog.cellsOf 3)):=by
      exact h.field Tryz.underlying136 0 _ rfl
    rwa [show Tryz.prog.cellsOf 3=1 by kernel_rfl] at h_
  obtain ⟨x0,e0,b0⟩:=h0.int Tryz.underlying3
  have h1:Rdb enc Tryz.prog W 3 ((cs.drop 1).take 1):=by
    have h_:Rdb enc Tryz.prog W 3 ((cs.drop 1).take (Tryz.prog.cellsOf 3)):=by
      exact h.field Tryz.underlying136 1 _ rfl
    rwa [show Tryz.prog.cellsOf 3=1 by kernel_rfl] at h_
  obtain ⟨x1,e1,b1⟩:=h1.int Tryz.underlying3
  have h2:Rdb enc Tryz.prog W 3 ((cs.drop 2).take 1):=by
    have h_:Rdb enc Tryz.prog W 3 ((cs.drop 2).take (Tryz.prog.cellsOf 3)):=by
      exact h.field Tryz.underlying136 2 _ rfl
    rwa [show Tryz.prog.cellsOf 3=1 by kernel_rfl] at h_
  obtain ⟨x2,e2,b2⟩:=h2.int Tryz.underlying3
  have h3:Rdb enc Tryz.prog W 3 ((cs.drop 3).take 1):=by
    have h_:Rdb enc Tryz.prog W 3 ((cs.drop 3).take (Tryz.prog.cellsOf 3)):=by
      exact h.field Tryz.underlying136 3 _ rfl
    rwa [show Tryz.prog.cellsOf 3=1 by kernel_rfl] at h_
  obtain ⟨x3,e3,b3⟩:=h3.int Tryz.underlying3
  have hI:LP.I64s [x0,x1,x2,x3]:=by
    intro x hx
    simp only [List.mem_cons,List.not_mem_nil,or_false] at hx
    rcases hx with rfl|rfl|rfl|rfl<;>assumption
  have hc:cs=[.int .i64 x0,.int .i64 x1,.int .i64 x2,.int .i64 x3]:=(List.drop_zero (l:=cs)).symm.trans (by rw [cut_next (m:=1) e0 rfl,cut_next (m:=2) e1 rfl,cut_next (m:=3) e2 rfl,cut_next (m:=4) e3 rfl,cut_end (m:=4) (by rw [h.len Tryz.underlying136];kernel_rfl)];rfl)
  exact ⟨x0,x1,x2,x3,hc,hI⟩
theorem open_T56 {H:Type} {enc:TypeId×Value→H} {W:World} {cs:List Value} (h:Rdb enc Tryz.prog W 56 cs):∃ (x0:Int) (x1:Int) (x2:Int) (x3:Int) (x4:Int) (x5:Int) (x6:Int) (x7:Int) (x8:Int) (x9:Int) (x10:Int) (x11:Int) (x12:Int) (v13:Value) (l13:List Cl),cs=[.int .i64 x0,.int .i64 x1,.int .i64 x2,.int .i64 x3,.int .i64 x4,.int .i64 x5,.int .i64 x6,.int .i64 x7,.int .i64 x8,.int .i64 x9,.int .i64 x10,.int .i64 x11,.int .i64 x12,v13]∧(LP.I64s [x0,x1,x2,x3,x4,x5,x6,x7,x8,x9,x10,x11,x12])∧(Elt W v13 4 (l13.map Cl.cells))∧(∀ a∈l13,(fun _=>True) a):=by
  have h0:Rdb enc Tryz.prog W 3 ((cs.drop 0).take 1):=by
    have h_:Rdb enc Tryz.prog W 3 ((cs.drop 0).take (Tryz.prog.cellsOf 3)):=by
      exact h.field Tryz.underlying56 0 _ rfl
    rwa [show Tryz.prog.cellsOf 3=1 by kernel_rfl] at h_
  obtain ⟨x0,e0,b0⟩:=h0.int Tryz.underlying3
  have h1:Rdb enc Tryz.prog W 3 ((cs.drop 1).take 1):=by
    have h_:Rdb enc Tryz.prog W 3 ((cs.drop 1).take (Tryz.prog.cellsOf 3)):=by
      exact h.field Tryz.underlying56 1 _ rfl
    rwa [show Tryz.prog.cellsOf 3=1 by kernel_rfl] at h_
  obtain ⟨x1,e1,b1⟩:=h1.int Tryz.underlying3
  have h2:Rdb enc Tryz.prog W 3 ((cs.drop 2).take 1):=by
    have h_:Rdb enc Tryz.prog W 3 ((cs.drop 2).take (Tryz.prog.cellsOf 3)):=by
      exact h.field Tryz.underlying56 2 _ rfl
    rwa [show Tryz.prog.cellsOf 3=1 by kernel_rfl] at h_
  obtain ⟨x2,e2,b2⟩:=h2.int Tryz.underlying3
  have h3:Rdb enc Tryz.prog W 3 ((cs.drop 3).take 1):=by
    have h_:Rdb enc Tryz.prog W 3 ((cs.drop 3).take (Tryz.prog.cellsOf 3)):=by
      exact h.field Tryz.underlying56 3 _ rfl
    rwa [show Tryz.prog.cellsOf 3=1 by kernel_rfl] at h_
  obtain ⟨x3,e3,b3⟩:=h3.int Tryz.underlying3
  have h4:Rdb enc Tryz.prog W 3 ((cs.drop 4).take 1):=by
    have h_:Rdb enc Tryz.prog W 3 ((cs.drop 4).take (Tryz.prog.cellsOf 3)):=by
      exact h.field Tryz.underlying56 4 _ rfl
    rwa [show Tryz.prog.cellsOf 3=1 by kernel_rfl] at h_
  obtain ⟨x4,e4,b4⟩:=h4.int Tryz.underlying3
  have h5:Rdb enc Tryz.prog W 3 ((cs.drop 5).take 1):=by
    have h_:Rdb enc Tryz.prog W 3 ((cs.drop 5).take (Tryz.prog.cellsOf 3)):=by
      exact h.field Tryz.underlying56 5 _ rfl
    rwa [show Tryz.prog.cellsOf 3=1 by kernel_rfl] at h_
  obtain ⟨x5,e5,b5⟩:=h5.int Tryz.underlying3
  have h6:Rdb enc Tryz.prog W 45 ((cs.drop 6).take 7):=by
    have h_:Rdb enc Tryz.prog W 45 ((cs.drop 6).take (Tryz.prog.cellsOf 45)):=by
      exact h.field Tryz.underlying56 6 _ rfl
    rwa [show Tryz.prog.cellsOf 45=7 by kernel_rfl] at h_
  obtain ⟨x6,x7,x8,x9,x10,x11,x12,e6,hI_6⟩:=open_T45 h6
  have b6:LP.I64 x6:=hI_6 _ (by simp)
  have b7:LP.I64 x7:=hI_6 _ (by simp)
  have b8:LP.I64 x8:=hI_6 _ (by simp)
  have b9:LP.I64 x9:=hI_6 _ (by simp)
  have b10:LP.I64 x10:=hI_6 _ (by simp)
  have b11:LP.I64 x11:=hI_6 _ (by simp)
  have b12:LP.I64 x12:=hI_6 _ (by simp)
  have h7:Rdb enc Tryz.prog W 54 ((cs.drop 13).take 1):=by
    have h_:Rdb enc Tryz.prog W 54 ((cs.drop 13).take (Tryz.prog.cellsOf 54)):=by
      exact h.field Tryz.underlying56 7 _ rfl
    rwa [show Tryz.prog.cellsOf 54=1 by kernel_rfl] at h_
  obtain ⟨v13,m13,e7,E13,r13⟩:=h7.slice 4 (by decide) Tryz.underlying54 (by kernel_rfl)
  obtain ⟨l13,rfl,q13⟩:=lift_map (f:=Cl.cells) (Q:=fun _=>True) fun b hb=>(by obtain ⟨x0,x1,x2,x3,e_,FhI⟩:=open_T136 (r13 b hb);exact ⟨⟨x0,x1,x2,x3⟩,e_,trivial⟩)
  have hI:LP.I64s [x0,x1,x2,x3,x4,x5,x6,x7,x8,x9,x10,x11,x12]:=by
    intro x hx
    simp only [List.mem_cons,List.not_mem_nil,or_false] at hx
    rcases hx with rfl|rfl|rfl|rfl|rfl|rfl|rfl|rfl|rfl|rfl|rfl|rfl|rfl<;>assumption
  have hc:cs=[.int .i64 x0,.int .i64 x1,.int .i64 x2,.int .i64 x3,.int .i64 x4,.int .i64 x5,.int .i64 x6,.int .i64 x7,.int .i64 x8,.int .i64 x9,.int .i64 x10,.int .i64 x11,.int .i64 x12,v13]:=(List.drop_zero (l:=cs)).symm.trans (by rw [cut_next (m:=1) e0 rfl,cut_next (m:=2) e1 rfl,cut_next (m:=3) e2 rfl,cut_next (m:=4) e3 rfl,cut_next (m:=5) e4 rfl,cut_next (m:=6) e5 rfl,cut_next (m:=13) e6 rfl,cut_next (m:=14) e7 rfl,cut_end (m:=14) (by rw [h.len Tryz.underlying56];kernel_rfl)];rfl)
  exact ⟨x0,x1,x2,x3,x4,x5,x6,x7,x8,x9,x10,x11,x12,v13,l13,hc,hI,E13,q13⟩
theorem open_T25 {H:Type} {enc:TypeId×Value→H} {W:World} {cs:List Value} (h:Rdb enc Tryz.prog W 25 cs):∃ (x0:Int) (x1:Int) (x2:Int) (x3:Nat) (v4:Value) (l4:List Sg),cs=[.int .i64 x0,.int .i64 x1,.int .i64 x2,.int .u64 (x3:Int),v4]∧(LP.I64s [x0,x1,x2])∧(x3 < 18446744073709551616)∧(Elt W v4 14 (l4.map Sg.cells))∧(∀ a∈l4,(fun s=>Elt W s.cv 4 (s.cl.map Cl.cells)) a):=by
  have h0:Rdb enc Tryz.prog W 3 ((cs.drop 0).take 1):=by
    have h_:Rdb enc Tryz.prog W 3 ((cs.drop 0).take (Tryz.prog.cellsOf 3)):=by
      exact h.field Tryz.underlying25 0 _ rfl
    rwa [show Tryz.prog.cellsOf 3=1 by kernel_rfl] at h_
  obtain ⟨x0,e0,b0⟩:=h0.int Tryz.underlying3
  have h1:Rdb enc Tryz.prog W 3 ((cs.drop 1).take 1):=by
    have h_:Rdb enc Tryz.prog W 3 ((cs.drop 1).take (Tryz.prog.cellsOf 3)):=by
      exact h.field Tryz.underlying25 1 _ rfl
    rwa [show Tryz.prog.cellsOf 3=1 by kernel_rfl] at h_
  obtain ⟨x1,e1,b1⟩:=h1.int Tryz.underlying3
  have h2:Rdb enc Tryz.prog W 3 ((cs.drop 2).take 1):=by
    have h_:Rdb enc Tryz.prog W 3 ((cs.drop 2).take (Tryz.prog.cellsOf 3)):=by
      exact h.field Tryz.underlying25 2 _ rfl
    rwa [show Tryz.prog.cellsOf 3=1 by kernel_rfl] at h_
  obtain ⟨x2,e2,b2⟩:=h2.int Tryz.underlying3
  have h3:Rdb enc Tryz.prog W 22 ((cs.drop 3).take 1):=by
    have h_:Rdb enc Tryz.prog W 22 ((cs.drop 3).take (Tryz.prog.cellsOf 22)):=by
      exact h.field Tryz.underlying25 3 _ rfl
    rwa [show Tryz.prog.cellsOf 22=1 by kernel_rfl] at h_
  obtain ⟨x3,e3,b3⟩:=h3.u64 Tryz.underlying22
  have h4:Rdb enc Tryz.prog W 23 ((cs.drop 4).take 1):=by
    have h_:Rdb enc Tryz.prog W 23 ((cs.drop 4).take (Tryz.prog.cellsOf 23)):=by
      exact h.field Tryz.underlying25 4 _ rfl
    rwa [show Tryz.prog.cellsOf 23=1 by kernel_rfl] at h_
  obtain ⟨v4,m4,e4,E4,r4⟩:=h4.slice 14 (by decide) Tryz.underlying23 (by kernel_rfl)
  obtain ⟨l4,rfl,q4⟩:=lift_map (f:=Sg.cells) (Q:=fun s=>Elt W s.cv 4 (s.cl.map Cl.cells)) fun b hb=>(by obtain ⟨x0,x1,x2,x3,x4,x5,x6,x7,x8,x9,x10,x11,x12,v13,l13,e_,FhI,FE13,Fq13⟩:=open_T56 (r4 b hb);exact ⟨⟨x0,x1,x2,x3,x4,x5,x6,x7,x8,x9,x10,x11,x12,v13,l13,elt_one FE13⟩,e_,FE13⟩)
  have hI:LP.I64s [x0,x1,x2]:=by
    intro x hx
    simp only [List.mem_cons,List.not_mem_nil,or_false] at hx
    rcases hx with rfl|rfl|rfl<;>assumption
  have hc:cs=[.int .i64 x0,.int .i64 x1,.int .i64 x2,.int .u64 (x3:Int),v4]:=(List.drop_zero (l:=cs)).symm.trans (by rw [cut_next (m:=1) e0 rfl,cut_next (m:=2) e1 rfl,cut_next (m:=3) e2 rfl,cut_next (m:=4) e3 rfl,cut_next (m:=5) e4 rfl,cut_end (m:=5) (by rw [h.len Tryz.underlying25];kernel_rfl)];rfl)
  exact ⟨x0,x1,x2,x3,v4,l4,hc,hI,b3,E4,q4⟩
theorem open_T41 {H:Type} {enc:TypeId×Value→H} {W:World} {cs:List Value} (h:Rdb enc Tryz.prog W 41 cs):∃ (x0:Int) (x1:Int) (x2:Int) (x3:Int) (x4:Int) (x5:Int),cs=[.int .i64 x0,.int .i64 x1,.int .i64 x2,.int .i64 x3,.int .i64 x4,.int .i64 x5]∧(LP.I64s [x0,x1,x2,x3,x4,x5]):=by
  have h0:Rdb enc Tryz.prog W 3 ((cs.drop 0).take 1):=by
    have h_:Rdb enc Tryz.prog W 3 ((cs.drop 0).take (Tryz.prog.cellsOf 3)):=by
      exact h.field Tryz.underlying41 0 _ rfl
    rwa [show Tryz.prog.cellsOf 3=1 by kernel_rfl] at h_
  obtain ⟨x0,e0,b0⟩:=h0.int Tryz.underlying3
  have h1:Rdb enc Tryz.prog W 3 ((cs.drop 1).take 1):=by
    have h_:Rdb enc Tryz.prog W 3 ((cs.drop 1).take (Tryz.prog.cellsOf 3)):=by
      exact h.field Tryz.underlying41 1 _ rfl
    rwa [show Tryz.prog.cellsOf 3=1 by kernel_rfl] at h_
  obtain ⟨x1,e1,b1⟩:=h1.int Tryz.underlying3
  have h2:Rdb enc Tryz.prog W 3 ((cs.drop 2).take 1):=by
    have h_:Rdb enc Tryz.prog W 3 ((cs.drop 2).take (Tryz.prog.cellsOf 3)):=by
      exact h.field Tryz.underlying41 2 _ rfl
    rwa [show Tryz.prog.cellsOf 3=1 by kernel_rfl] at h_
  obtain ⟨x2,e2,b2⟩:=h2.int Tryz.underlying3
  have h3:Rdb enc Tryz.prog W 3 ((cs.drop 3).take 1):=by
    have h_:Rdb enc Tryz.prog W 3 ((cs.drop 3).take (Tryz.prog.cellsOf 3)):=by
      exact h.field Tryz.underlying41 3 _ rfl
    rwa [show Tryz.prog.cellsOf 3=1 by kernel_rfl] at h_
  obtain ⟨x3,e3,b3⟩:=h3.int Tryz.underlying3
  have h4:Rdb enc Tryz.prog W 3 ((cs.drop 4).take 1):=by
    have h_:Rdb enc Tryz.prog W 3 ((cs.drop 4).take (Tryz.prog.cellsOf 3)):=by
      exact h.field Tryz.underlying41 4 _ rfl
    rwa [show Tryz.prog.cellsOf 3=1 by kernel_rfl] at h_
  obtain ⟨x4,e4,b4⟩:=h4.int Tryz.underlying3
  have h5:Rdb enc Tryz.prog W 3 ((cs.drop 5).take 1):=by
    have h_:Rdb enc Tryz.prog W 3 ((cs.drop 5).take (Tryz.prog.cellsOf 3)):=by
      exact h.field Tryz.underlying41 5 _ rfl
    rwa [show Tryz.prog.cellsOf 3=1 by kernel_rfl] at h_
  obtain ⟨x5,e5,b5⟩:=h5.int Tryz.underlying3
  have hI:LP.I64s [x0,x1,x2,x3,x4,x5]:=by
    intro x hx
    simp only [List.mem_cons,List.not_mem_nil,or_false] at hx
    rcases hx with rfl|rfl|rfl|rfl|rfl|rfl<;>assumption
  have hc:cs=[.int .i64 x0,.int .i64 x1,.int .i64 x2,.int .i64 x3,.int .i64 x4,.int .i64 x5]:=(List.drop_zero (l:=cs)).symm.trans (by rw [cut_next (m:=1) e0 rfl,cut_next (m:=2) e1 rfl,cut_next (m:=3) e2 rfl,cut_next (m:=4) e3 rfl,cut_next (m:=5) e4 rfl,cut_next (m:=6) e5 rfl,cut_end (m:=6) (by rw [h.len Tryz.underlying41];kernel_rfl)];rfl)
  exact ⟨x0,x1,x2,x3,x4,x5,hc,hI⟩
theorem open_T43 {H:Type} {enc:TypeId×Value→H} {W:World} {cs:List Value} (h:Rdb enc Tryz.prog W 43 cs):∃ (x0:Int) (x1:Int) (x2:Int) (x3:Int) (x4:Int) (x5:Int) (x6:Int),cs=[.int .i64 x0,.int .i64 x1,.int .i64 x2,.int .i64 x3,.int .i64 x4,.int .i64 x5,.int .i64 x6]∧(LP.I64s [x0,x1,x2,x3,x4,x5,x6]):=by
  have h0:Rdb enc Tryz.prog W 3 ((cs.drop 0).take 1):=by
    have h_:Rdb enc Tryz.prog W 3 ((cs.drop 0).take (Tryz.prog.cellsOf 3)):=by
      exact h.field Tryz.underlying43 0 _ rfl
    rwa [show Tryz.prog.cellsOf 3=1 by kernel_rfl] at h_
  obtain ⟨x0,e0,b0⟩:=h0.int Tryz.underlying3
  have h1:Rdb enc Tryz.prog W 3 ((cs.drop 1).take 1):=by
    have h_:Rdb enc Tryz.prog W 3 ((cs.drop 1).take (Tryz.prog.cellsOf 3)):=by
      exact h.field Tryz.underlying43 1 _ rfl
    rwa [show Tryz.prog.cellsOf 3=1 by kernel_rfl] at h_
  obtain ⟨x1,e1,b1⟩:=h1.int Tryz.underlying3
  have h2:Rdb enc Tryz.prog W 3 ((cs.drop 2).take 1):=by
    have h_:Rdb enc Tryz.prog W 3 ((cs.drop 2).take (Tryz.prog.cellsOf 3)):=by
      exact h.field Tryz.underlying43 2 _ rfl
    rwa [show Tryz.prog.cellsOf 3=1 by kernel_rfl] at h_
  obtain ⟨x2,e2,b2⟩:=h2.int Tryz.underlying3
  have h3:Rdb enc Tryz.prog W 3 ((cs.drop 3).take 1):=by
    have h_:Rdb enc Tryz.prog W 3 ((cs.drop 3).take (Tryz.prog.cellsOf 3)):=by
      exact h.field Tryz.underlying43 3 _ rfl
    rwa [show Tryz.prog.cellsOf 3=1 by kernel_rfl] at h_
  obtain ⟨x3,e3,b3⟩:=h3.int Tryz.underlying3
  have h4:Rdb enc Tryz.prog W 3 ((cs.drop 4).take 1):=by
    have h_:Rdb enc Tryz.prog W 3 ((cs.drop 4).take (Tryz.prog.cellsOf 3)):=by
      exact h.field Tryz.underlying43 4 _ rfl
    rwa [show Tryz.prog.cellsOf 3=1 by kernel_rfl] at h_
  obtain ⟨x4,e4,b4⟩:=h4.int Tryz.underlying3
  have h5:Rdb enc Tryz.prog W 3 ((cs.drop 5).take 1):=by
    have h_:Rdb enc Tryz.prog W 3 ((cs.drop 5).take (Tryz.prog.cellsOf 3)):=by
      exact h.field Tryz.underlying43 5 _ rfl
    rwa [show Tryz.prog.cellsOf 3=1 by kernel_rfl] at h_
  obtain ⟨x5,e5,b5⟩:=h5.int Tryz.underlying3
  have h6:Rdb enc Tryz.prog W 3 ((cs.drop 6).take 1):=by
    have h_:Rdb enc Tryz.prog W 3 ((cs.drop 6).take (Tryz.prog.cellsOf 3)):=by
      exact h.field Tryz.underlying43 6 _ rfl
    rwa [show Tryz.prog.cellsOf 3=1 by kernel_rfl] at h_
  obtain ⟨x6,e6,b6⟩:=h6.int Tryz.underlying3
  have hI:LP.I64s [x0,x1,x2,x3,x4,x5,x6]:=by
    intro x hx
    simp only [List.mem_cons,List.not_mem_nil,or_false] at hx
    rcases hx with rfl|rfl|rfl|rfl|rfl|rfl|rfl<;>assumption
  have hc:cs=[.int .i64 x0,.int .i64 x1,.int .i64 x2,.int .i64 x3,.int .i64 x4,.int .i64 x5,.int .i64 x6]:=(List.drop_zero (l:=cs)).symm.trans (by rw [cut_next (m:=1) e0 rfl,cut_next (m:=2) e1 rfl,cut_next (m:=3) e2 rfl,cut_next (m:=4) e3 rfl,cut_next (m:=5) e4 rfl,cut_next (m:=6) e5 rfl,cut_next (m:=7) e6 rfl,cut_end (m:=7) (by rw [h.len Tryz.underlying43];kernel_rfl)];rfl)
  exact ⟨x0,x1,x2,x3,x4,x5,x6,hc,hI⟩
theorem open_T47 {H:Type} {enc:TypeId×Value→H} {W:World} {cs:List Value} (h:Rdb enc Tryz.prog W 47 cs):∃ (x0:Int) (x1:Int) (x2:Int) (x3:Int) (x4:Int) (x5:Int) (x6:Int) (x7:Int) (x8:Int),cs=[.int .i64 x0,.int .i64 x1,.int .i64 x2,.int .i64 x3,.int .i64 x4,.int .i64 x5,.int .i64 x6,.int .i64 x7,.int .i64 x8]∧(LP.I64s [x0,x1,x2,x3,x4,x5,x6,x7,x8]):=by
  have h0:Rdb enc Tryz.prog W 3 ((cs.drop 0).take 1):=by
    have h_:Rdb enc Tryz.prog W 3 ((cs.drop 0).take (Tryz.prog.cellsOf 3)):=by
      exact h.field Tryz.underlying47 0 _ rfl
    rwa [show Tryz.prog.cellsOf 3=1 by kernel_rfl] at h_
  obtain ⟨x0,e0,b0⟩:=h0.int Tryz.underlying3
  have h1:Rdb enc Tryz.prog W 3 ((cs.drop 1).take 1):=by
    have h_:Rdb enc Tryz.prog W 3 ((cs.drop 1).take (Tryz.prog.cellsOf 3)):=by
      exact h.field Tryz.underlying47 1 _ rfl
    rwa [show Tryz.prog.cellsOf 3=1 by kernel_rfl] at h_
  obtain ⟨x1,e1,b1⟩:=h1.int Tryz.underlying3
  have h2:Rdb enc Tryz.prog W 45 ((cs.drop 2).take 7):=by
    have h_:Rdb enc Tryz.prog W 45 ((cs.drop 2).take (Tryz.prog.cellsOf 45)):=by
      exact h.field Tryz.underlying47 2 _ rfl
    rwa [show Tryz.prog.cellsOf 45=7 by kernel_rfl] at h_
  obtain ⟨x2,x3,x4,x5,x6,x7,x8,e2,hI_2⟩:=open_T45 h2
  have b2:LP.I64 x2:=hI_2 _ (by simp)
  have b3:LP.I64 x3:=hI_2 _ (by simp)
  have b4:LP.I64 x4:=hI_2 _ (by simp)
  have b5:LP.I64 x5:=hI_2 _ (by simp)
  have b6:LP.I64 x6:=hI_2 _ (by simp)
  have b7:LP.I64 x7:=hI_2 _ (by simp)
  have b8:LP.I64 x8:=hI_2 _ (by simp)
  have hI:LP.I64s [x0,x1,x2,x3,x4,x5,x6,x7,x8]:=by
    intro x hx
    simp only [List.mem_cons,List.not_mem_nil,or_false] at hx
    rcases hx with rfl|rfl|rfl|rfl|rfl|rfl|rfl|rfl|rfl<;>assumption
  have hc:cs=[.int .i64 x0,.int .i64 x1,.int .i64 x2,.int .i64 x3,.int .i64 x4,.int .i64 x5,.int .i64 x6,.int .i64 x7,.int .i64 x8]:=(List.drop_zero (l:=cs)).symm.trans (by rw [cut_next (m:=1) e0 rfl,cut_next (m:=2) e1 rfl,cut_next (m:=9) e2 rfl,cut_end (m:=9) (by rw [h.len Tryz.underlying47];kernel_rfl)];rfl)
  exact ⟨x0,x1,x2,x3,x4,x5,x6,x7,x8,hc,hI⟩
theorem open_T49 {H:Type} {enc:TypeId×Value→H} {W:World} {cs:List Value} (h:Rdb enc Tryz.prog W 49 cs):∃ (x0:Int) (x1:Int) (x2:Int) (x3:Int) (x4:Int) (x5:Int) (x6:Int) (x7:Int) (x8:Int) (x9:Int) (x10:Int) (x11:Int) (x12:Int) (x13:Int) (x14:Int) (x15:Int) (x16:Int) (x17:Int) (x18:Int) (x19:Int) (x20:Int) (x21:Int) (x22:Int) (x23:Int),cs=[.int .i64 x0,.int .i64 x1,.int .i64 x2,.int .i64 x3,.int .i64 x4,.int .i64 x5,.int .i64 x6,.int .i64 x7,.int .i64 x8,.int .i64 x9,.int .i64 x10,.int .i64 x11,.int .i64 x12,.int .i64 x13,.int .i64 x14,.int .i64 x15,.int .i64 x16,.int .i64 x17,.int .i64 x18,.int .i64 x19,.int .i64 x20,.int .i64 x21,.int .i64 x22,.int .i64 x23]∧(LP.I64s [x0,x1,x2,x3,x4,x5,x6,x7,x8,x9,x10,x11,x12,x13,x14,x15,x16,x17,x18,x19,x20,x21,x22,x23]):=by
  have h0:Rdb enc Tryz.prog W 3 ((cs.drop 0).take 1):=by
    have h_:Rdb enc Tryz.prog W 3 ((cs.drop 0).take (Tryz.prog.cellsOf 3)):=by
      exact h.field Tryz.underlying49 0 _ rfl
    rwa [show Tryz.prog.cellsOf 3=1 by kernel_rfl] at h_
  obtain ⟨x0,e0,b0⟩:=h0.int Tryz.underlying3
  have h1:Rdb enc Tryz.prog W 3 ((cs.drop 1).take 1):=by
    have h_:Rdb enc Tryz.prog W 3 ((cs.drop 1).take (Tryz.prog.cellsOf 3)):=by
      exact h.field Tryz.underlying49 1 _ rfl
    rwa [show Tryz.prog.cellsOf 3=1 by kernel_rfl] at h_
  obtain ⟨x1,e1,b1⟩:=h1.int Tryz.underlying3
  have h2:Rdb enc Tryz.prog W 41 ((cs.drop 2).take 6):=by
    have h_:Rdb enc Tryz.prog W 41 ((cs.drop 2).take (Tryz.prog.cellsOf 41)):=by
      exact h.field Tryz.underlying49 2 _ rfl
    rwa [show Tryz.prog.cellsOf 41=6 by kernel_rfl] at h_
  obtain ⟨x2,x3,x4,x5,x6,x7,e2,hI_2⟩:=open_T41 h2
  have b2:LP.I64 x2:=hI_2 _ (by simp)
  have b3:LP.I64 x3:=hI_2 _ (by simp)
  have b4:LP.I64 x4:=hI_2 _ (by simp)
  have b5:LP.I64 x5:=hI_2 _ (by simp)
  have b6:LP.I64 x6:=hI_2 _ (by simp)
  have b7:LP.I64 x7:=hI_2 _ (by simp)
  have h3:Rdb enc Tryz.prog W 43 ((cs.drop 8).take 7):=by
    have h_:Rdb enc Tryz.prog W 43 ((cs.drop 8).take (Tryz.prog.cellsOf 43)):=by
      exact h.field Tryz.underlying49 3 _ rfl
    rwa [show Tryz.prog.cellsOf 43=7 by kernel_rfl] at h_
  obtain ⟨x8,x9,x10,x11,x12,x13,x14,e3,hI_3⟩:=open_T43 h3
  have b8:LP.I64 x8:=hI_3 _ (by simp)
  have b9:LP.I64 x9:=hI_3 _ (by simp)
  have b10:LP.I64 x10:=hI_3 _ (by simp)
  have b11:LP.I64 x11:=hI_3 _ (by simp)
  have b12:LP.I64 x12:=hI_3 _ (by simp)
  have b13:LP.I64 x13:=hI_3 _ (by simp)
  have b14:LP.I64 x14:=hI_3 _ (by simp)
  have h4:Rdb enc Tryz.prog W 47 ((cs.drop 15).take 9):=by
    have h_:Rdb enc Tryz.prog W 47 ((cs.drop 15).take (Tryz.prog.cellsOf 47)):=by
      exact h.field Tryz.underlying49 4 _ rfl
    rwa [show Tryz.prog.cellsOf 47=9 by kernel_rfl] at h_
  obtain ⟨x15,x16,x17,x18,x19,x20,x21,x22,x23,e4,hI_4⟩:=open_T47 h4
  have b15:LP.I64 x15:=hI_4 _ (by simp)
  have b16:LP.I64 x16:=hI_4 _ (by simp)
  have b17:LP.I64 x17:=hI_4 _ (by simp)
  have b18:LP.I64 x18:=hI_4 _ (by simp)
  have b19:LP.I64 x19:=hI_4 _ (by simp)
  have b20:LP.I64 x20:=hI_4 _ (by simp)
  have b21:LP.I64 x21:=hI_4 _ (by simp)
  have b22:LP.I64 x22:=hI_4 _ (by simp)
  have b23:LP.I64 x23:=hI_4 _ (by simp)
  have hI:LP.I64s [x0,x1,x2,x3,x4,x5,x6,x7,x8,x9,x10,x11,x12,x13,x14,x15,x16,x17,x18,x19,x20,x21,x22,x23]:=by
    intro x hx
    simp only [List.mem_cons,List.not_mem_nil,or_false] at hx
    rcases hx with rfl|rfl|rfl|rfl|rfl|rfl|rfl|rfl|rfl|rfl|rfl|rfl|rfl|rfl|rfl|rfl|rfl|rfl|rfl|rfl|rfl|rfl|rfl|rfl<;>assumption
  have hc:cs=[.int .i64 x0,.int .i64 x1,.int .i64 x2,.int .i64 x3,.int .i64 x4,.int .i64 x5,.int .i64 x6,.int .i64 x7,.int .i64 x8,.int .i64 x9,.int .i64 x10,.int .i64 x11,.int .i64 x12,.int .i64 x13,.int .i64 x14,.int .i64 x15,.int .i64 x16,.int .i64 x17,.int .i64 x18,.int .i64 x19,.int .i64 x20,.int .i64 x21,.int .i64 x22,.int .i64 x23]:=(List.drop_zero (l:=cs)).symm.trans (by rw [cut_next (m:=1) e0 rfl,cut_next (m:=2) e1 rfl,cut_next (m:=8) e2 rfl,cut_next (m:=15) e3 rfl,cut_next (m:=24) e4 rfl,cut_end (m:=24) (by rw [h.len Tryz.underlying49];kernel_rfl)];rfl)
  exact ⟨x0,x1,x2,x3,x4,x5,x6,x7,x8,x9,x10,x11,x12,x13,x14,x15,x16,x17,x18,x19,x20,x21,x22,x23,hc,hI⟩
set_option maxRecDepth 100000 in
theorem nodeMonotone_lifted (os:Os) (started:os.Started) (H:Type) (enc:TypeId×Value→H) :
    ReturnsInHanded {} Tryz.checked os 5 .any (fun w args=>(Rows.nodeMonotoneSpec.pre enc Tryz.prog Tryz.f5 [] false w args∧laidMetH Tryz.prog laidL w)∧sizedMet enc Tryz.prog Tryz.f5 (OpenSpec.ofChange Rows.nodeMonotoneSpec) false w args) (Rows.nodeMonotoneSpec.post enc Tryz.prog Tryz.f5 false true false false):=by
  refine law_and_shaped (C:=Tryz.checked) (X:=fun w _=>laidMetH Tryz.prog laidL w) (fun _ _ _ hh h=>h.of_heap hh) Tryz.own started (by kernel_rfl) Tryz.func5
    (ChangeSpec.witness_shaped (enc:=enc) (C:=Tryz.checked) (os:=os) (X:=fun w _=>laidMetH Tryz.prog laidL w) false (World.laidAll Tryz.prog os laidL) #[.agg #[.int .i64 0,.int .i64 0,.int .i64 0,.int .u64 0,.slice none 0 0],.int .i64 0,.slice none 0 0] 8 (World.laidAll_os _ _ _) (World.shaped_of_ZipB (by kernel_rfl) (by kernel_rfl)) (by kernel_rfl) (by kernel_rfl) (by kernel_rfl) (door_met os _)) ?_
  intro W base args ds gs before hval0 hW hL hsh
  have hval:∀ (j:Nat) t v,Tryz.f5.params[j]?=some t→args[j]?=some v→Value.okWide Tryz.prog W .any base t v:=hval0
  have hW':=hW
  obtain ⟨p,q,hA0,hV,rfl,hfz,hnd⟩:=hW
  have hA:DataW.TrodAll enc Tryz.prog W 0 (fun _=>true) true Tryz.f5.params.toList args.toList ds p:=hA0
  rw [Tryz.params5] at hA hval
  obtain ⟨v0,v1,v2,d0,d1,d2,p0,p1,p2,rfl,rfl,rfl,h0,h1,h2⟩:=trodAll_three hA
  obtain ⟨rfl,rfl⟩:=trodVars_none hV
  have hm0:=of_laid0 hsh hL
  have hm1:=of_laid1 hsh hL
  clear hfz hnd hA0 hval0
  obtain ⟨x0_0,x1_0,x2_0,x3_0,v4_0,l4_0,hc0,hI_0,b3_0,E4_0,q4_0⟩:=open_T25 (Rdb.of h0)
  have hv0:v0=.agg #[.int .i64 x0_0,.int .i64 x1_0,.int .i64 x2_0,.int .u64 (x3_0:Int),v4_0]:=by
    obtain ⟨c_,rfl,_⟩:=okWide_struct Tryz.underlying25 (hval 0 25 v0 rfl rfl)
    exact agg_of hc0
  subst hv0
  obtain ⟨x1,rfl,rfl,rfl,wx1⟩:=open_int Tryz.underlying3 (hval 1 3 v1 rfl rfl) h1
  obtain ⟨u2,m2,e2,E2,r2⟩:=(Rdb.of h2).slice 24 (by decide) Tryz.underlying26 (by kernel_rfl)
  obtain rfl:=one_of (noagg (okWide_slice Tryz.underlying26 (hval 2 26 v2 rfl rfl))) e2
  obtain ⟨l2,rfl,q2⟩:=lift_map (f:=Ad.cells) (Q:=fun _=>True) fun b hb=>(by obtain ⟨x0,x1,x2,x3,x4,x5,x6,x7,x8,x9,x10,x11,x12,x13,x14,x15,x16,x17,x18,x19,x20,x21,x22,x23,e_,FhI⟩:=open_T49 (r2 b hb);exact ⟨⟨x0,x1,x2,x3,x4,x5,x6,x7,x8,x9,x10,x11,x12,x13,x14,x15,x16,x17,x18,x19,x20,x21,x22,x23⟩,e_,trivial⟩)
  refine (Tri.law (l35_Monotone x0_0 x1_0 x2_0 x3_0 v4_0 l4_0 x1 v2 l2 (elt_one E4_0)) W (by intro A hA;simp only [List.mem_cons,List.not_mem_nil,or_false] at hA;rcases hA with rfl|rfl|rfl|rfl|rfl<;>first|exact E4_0|exact E2|exact (fun A hA=>by obtain ⟨x_,hx_,rfl⟩:=List.mem_map.1 hA;exact q4_0 x_ hx_)|exact hm0|exact hm1)).mono fun e W' ⟨he,hb⟩=>?_
  subst he
  exact ⟨_,rfl,post_true Tryz.laidOut hW' rfl rfl rfl Tryz.underlying4 (by rw [Tryz.params5];exact List.forall_mem_cons.2 ⟨⟨by kernel_rfl,of_decide_eq_true (by kernel_rfl)⟩,List.forall_mem_cons.2 ⟨⟨by kernel_rfl,of_decide_eq_true (by kernel_rfl)⟩,List.forall_mem_cons.2 ⟨⟨by kernel_rfl,of_decide_eq_true (by kernel_rfl)⟩,List.forall_mem_nil _⟩⟩⟩) hb⟩
theorem and2 {a b:Bool} (ha:a=true) (hb:b=true):(a&&b)=true:=by rw [ha,hb];rfl
theorem nodeMonotone_k0:(Rows.nodeMonotoneRow.wf (OpenSpec.ofChange Rows.nodeMonotoneSpec))=true:=by kernel_rfl
theorem nodeMonotone_k1:(laidOutB Tryz.prog)=true:=Tryz.laidOut
theorem nodeMonotone_k3:(Tryz.f5.params.all (Tryz.prog.readableRec ·))=true:=by kernel_rfl
theorem nodeMonotone_k4:(namedTie Tryz.prog Rows.nodeMonotoneRow.named Rows.nodeMonotoneSpec.vars)=true:=by kernel_rfl
theorem nodeMonotone_k5:(Rows.nodeMonotoneRow.stops == [])=true:=by kernel_rfl
theorem nodeMonotone_k6:(Tryz.prog.stops == [])=true:=by kernel_rfl
theorem nodeMonotone_k7:(Rows.nodeMonotoneRow.knobs == [])=true:=by kernel_rfl
theorem nodeMonotone_k8:(Tryz.prog.stopKnobs == [])=true:=by kernel_rfl
theorem nodeMonotone_k13:(Rows.nodeMonotoneRow.maps == (Tryz.f5.params.toList++Rows.nodeMonotoneSpec.plain.varTypes Tryz.prog).any (Tryz.prog.mapsRec ·))=true:=by kernel_rfl
theorem nodeMonotone_k14:(Rows.nodeMonotoneRow.ifaces == (Tryz.f5.params.toList++Rows.nodeMonotoneSpec.plain.varTypes Tryz.prog).any (Tryz.prog.ifacesRec ·))=true:=by kernel_rfl
theorem nodeMonotone_k15:(Rows.nodeMonotoneRow.mapsOut == Tryz.prog.mapsAmong Tryz.f5.resultTypes.toList)=true:=by kernel_rfl
theorem nodeMonotone_k16:(Rows.nodeMonotoneRow.loops == (Tryz.f5.params.toList++Rows.nodeMonotoneSpec.plain.varTypes Tryz.prog).any (Tryz.prog.loopsFrom ·))=true:=by kernel_rfl
theorem nodeMonotone_k17:(Rows.nodeMonotoneRow.wideKeys == (Tryz.f5.params.toList++Rows.nodeMonotoneSpec.plain.varTypes Tryz.prog++Tryz.f5.resultTypes.toList).any (Tryz.prog.wideKeysFrom ·))=true:=by kernel_rfl
theorem nodeMonotone_k18:(Rows.nodeMonotoneSpec.vars.all (Tryz.prog.varReadable ·))=true:=by kernel_rfl
theorem nodeMonotone_k19:(Tryz.f5.resultTypes.all (fun t=>Tryz.prog.readableRec t&&decide (t < Tryz.prog.types.size)))=true:=by kernel_rfl
theorem nodeMonotone_k20:(Rows.nodeMonotoneRow.ifacesOut == Tryz.f5.resultTypes.toList.any (Tryz.prog.ifacesRec ·))=true:=by kernel_rfl
theorem nodeMonotone_k21:(Rows.nodeMonotoneRow.loopsOut == Tryz.f5.resultTypes.toList.any (Tryz.prog.loopsFrom ·))=true:=by kernel_rfl
theorem nodeMonotone_k23:(Rows.nodeMonotoneRow.shortTexts.isNone)=true:=by kernel_rfl
theorem nodeMonotone_k28:(Rows.nodeMonotoneRow.kinds == (if Rows.nodeMonotoneRow.domain.isEmpty then [] else Tryz.f5.params.toList.map fun t=>match Tryz.prog.underlying t with|some (.int k)=>some k|_=>none))=true:=by kernel_rfl
theorem nodeMonotone_k29:(Rows.nodeMonotoneRow.pinned == Rows.nodeMonotoneRow.pinnedBy)=true:=by kernel_rfl
theorem nodeMonotone_k30:(Rows.nodeMonotoneRow.veiled == (Tryz.f5.params.toList++Rows.nodeMonotoneSpec.plain.varTypes Tryz.prog++Tryz.f5.resultTypes.toList).any (Tryz.prog.veiledRec ·))=true:=by kernel_rfl
theorem nodeMonotone_k31:(Rows.nodeMonotoneRow.veiledFits Tryz.prog Tryz.f5.params.toList (Tryz.f5.params.toList++Rows.nodeMonotoneSpec.plain.varTypes Tryz.prog++Tryz.f5.resultTypes.toList))=true:=by kernel_rfl
set_option maxRecDepth 100000 in
theorem nodeMonotone_all:joinedFacts Tryz.prog 5 Tryz.f5 Rows.nodeMonotoneSpec Rows.nodeMonotoneRow=true:=by
  unfold joinedFacts
  exact (and2 (and2 (and2 (and2 (and2 (and2 (and2 (and2 (and2 (and2 (and2 (and2 (and2 (and2 (and2 (and2 (and2 (and2 (and2 (and2 (and2 (and2 (and2 (and2 (and2 (and2 (and2 (and2 (and2 (and2 (and2 nodeMonotone_k0 nodeMonotone_k1) nodeMonotone_k2) nodeMonotone_k3) nodeMonotone_k4) nodeMonotone_k5) nodeMonotone_k6) nodeMonotone_k7) nodeMonotone_k8) nodeMonotone_k9) nodeMonotone_k10) nodeMonotone_k11) nodeMonotone_k12) nodeMonotone_k13) nodeMonotone_k14) nodeMonotone_k15) nodeMonotone_k16) nodeMonotone_k17) nodeMonotone_k18) nodeMonotone_k19) nodeMonotone_k20) nodeMonotone_k21) nodeMonotone_k22) nodeMonotone_k23) nodeMonotone_k24) nodeMonotone_k25) nodeMonotone_k26) nodeMonotone_k27) nodeMonotone_k28) nodeMonotone_k29) nodeMonotone_k30) nodeMonotone_k31)
theorem nodeMonotone_holds:Rows.NodeMonotoneSaid :=
  OpenClaim.holds_of_wide 5 Tryz.f5 rfl rfl rfl rfl rfl rfl rfl ⟨rfl,rfl,rfl,rfl,rfl⟩ rfl rfl rfl rfl rfl nodeMonotone_fnm Tryz.func5 nodeMonotone_all
    (of_decide_eq_true (by kernel_rfl)) (by unfold Func.isWrapper;first|(rw [if_pos (by decide +kernel)];kernel_rfl)|(rw [if_neg (by decide +kernel)];exact ⟨rfl,rfl⟩))
    (fun os started H enc _=>nodeMonotone_lifted os started H enc)
theorem nodeMonotone_card:Rows.NodeMonotoneCardSaid :=
  Claim7.holds_tied_plain_at .later [] [.data, .widerDeep] true (true, "1d7782d94166bd24611b28d86d543569072fb17d21890aae93bda4ab5a4ab09a") false
    nodeMonotone_holds (fun _ h=>by cases h) (by kernel_rfl) (fun _ h=>by cases h) nodeMonotone_row_tie rfl ⟨rfl,rfl⟩ nodeMonotone_mn rfl
    (fun f fn hf hfn=>by
      obtain rfl:f=5:=Option.some.inj (nodeMonotone_fnm.symm.trans hf) |>.symm
      obtain rfl:fn=Tryz.f5:=(Option.some.inj (Tryz.func5.symm.trans hfn)).symm
      exact ⟨nodeMonotone_lk,fun j t ht=>by
        rw [Tryz.params5] at ht
        have hm:t∈[25,3,26]:=by simpa using Array.mem_of_getElem? ht
        have hall:([25,3,26].all fun u=>!Tryz.prog.wantsStandIn u)=true:=by kernel_rfl
        exact (show Tryz.prog.wantsStandIn t=false by simpa using List.all_eq_true.1 hall t hm)⟩)
    nodeMonotone_gb
end Go.Proofs.YtohjlkjhpibkmaaGreatDoor
