/-
  Closed facts of the program: sizes and zero values of element types, the places of fields.
-/
import Derived.KernelRfl
import Derived.Test.YtohjlkjhpibkmaaGreatDoorLk24
import Derived.Test.YtohjlkjhpibkmaaGreatDoorProg
namespace Go.Proofs.YtohjlkjhpibkmaaGreatDoor
open Go Go.LK
set_option linter.unusedSimpArgs false

theorem Tryz.mixed : Tryz.prog.follows .mixedOrders = true := by kernel_rfl
theorem info3 : Tryz.prog.info? 3 = some Tryz.t3 ∧ Tryz.t3.zero = some (.int .i64 0) ∧ Tryz.t3.size = 1 ∧ Tryz.t3.bytes = 8 := ⟨by kernel_rfl, by kernel_rfl, by kernel_rfl, by kernel_rfl⟩
theorem info51 : Tryz.prog.info? 51 = some Tryz.t51 ∧ Tryz.t51.zero = some (.agg #[.int .i64 0, .int .i64 0, .int .i64 0, .int .i64 0, .int .i64 0, .int .i64 0, .int .i64 0]) ∧ Tryz.t51.size = 7 ∧ Tryz.t51.bytes = 56 := ⟨by kernel_rfl, by kernel_rfl, by kernel_rfl, by kernel_rfl⟩
theorem info56 : Tryz.prog.info? 56 = some Tryz.t56 ∧ Tryz.t56.zero = some (.agg #[.int .i64 0, .int .i64 0, .int .i64 0, .int .i64 0, .int .i64 0, .int .i64 0, .int .i64 0, .int .i64 0, .int .i64 0, .int .i64 0, .int .i64 0, .int .i64 0, .int .i64 0, Value.slice none 0 0]) ∧ Tryz.t56.size = 14 ∧ Tryz.t56.bytes = 128 := ⟨by kernel_rfl, by kernel_rfl, by kernel_rfl, by kernel_rfl⟩
theorem info62 : Tryz.prog.info? 62 = some Tryz.t62 ∧ Tryz.t62.zero = some (.agg #[.int .i64 0, .int .i64 0, .int .i64 0, .int .i64 0, .int .i64 0, .int .i64 0, .int .i64 0, .int .i64 0, .int .i64 0, .int .i64 0, .int .i64 0, .int .i64 0, .int .i64 0, .int .i64 0, .int .i64 0, .int .i64 0, .int .i64 0, .int .i64 0, .int .i64 0, .int .i64 0, .int .i64 0, .int .i64 0, .int .i64 0]) ∧ Tryz.t62.size = 23 ∧ Tryz.t62.bytes = 184 := ⟨by kernel_rfl, by kernel_rfl, by kernel_rfl, by kernel_rfl⟩
theorem info66 : Tryz.prog.info? 66 = some Tryz.t66 ∧ Tryz.t66.zero = some (.agg #[.int .i64 0, .int .i64 0, .int .i64 0, .int .i64 0, .int .i64 0, .int .i64 0, .int .i64 0]) ∧ Tryz.t66.size = 7 ∧ Tryz.t66.bytes = 56 := ⟨by kernel_rfl, by kernel_rfl, by kernel_rfl, by kernel_rfl⟩
theorem info68 : Tryz.prog.info? 68 = some Tryz.t68 ∧ Tryz.t68.zero = some (.agg #[.int .i64 0, .int .i64 0, .int .i64 0, .int .i64 0, .int .i64 0, .int .i64 0, .int .i64 0, .int .i64 0, Value.slice none 0 0]) ∧ Tryz.t68.size = 9 ∧ Tryz.t68.bytes = 88 := ⟨by kernel_rfl, by kernel_rfl, by kernel_rfl, by kernel_rfl⟩
theorem info136 : Tryz.prog.info? 136 = some Tryz.t136 ∧ Tryz.t136.zero = some (.agg #[.int .i64 0, .int .i64 0, .int .i64 0, .int .i64 0]) ∧ Tryz.t136.size = 4 ∧ Tryz.t136.bytes = 32 := ⟨by kernel_rfl, by kernel_rfl, by kernel_rfl, by kernel_rfl⟩
theorem places25 {fs : Array Field} (h : Tryz.prog.underlying 25 = some (.struct fs)) : ∀ w, (fs.mapM (m := Sem) fun f => Prod.mk f.offset <$> sizeOf f.type).run Tryz.prog w = .ok #[(0, 1), (1, 1), (2, 1), (3, 1), (4, 1)] w := by
  rw [Tryz.underlying25] at h
  cases h
  intro w
  simp [Tryz.sizeOf22, Tryz.sizeOf23, Tryz.sizeOf3]
theorem places36 {fs : Array Field} (h : Tryz.prog.underlying 36 = some (.struct fs)) : ∀ w, (fs.mapM (m := Sem) fun f => Prod.mk f.offset <$> sizeOf f.type).run Tryz.prog w = .ok #[(0, 1), (1, 1)] w := by
  rw [Tryz.underlying36] at h
  cases h
  intro w
  simp [Tryz.sizeOf33, Tryz.sizeOf34]
theorem places41 {fs : Array Field} (h : Tryz.prog.underlying 41 = some (.struct fs)) : ∀ w, (fs.mapM (m := Sem) fun f => Prod.mk f.offset <$> sizeOf f.type).run Tryz.prog w = .ok #[(0, 1), (1, 1), (2, 1), (3, 1), (4, 1), (5, 1)] w := by
  rw [Tryz.underlying41] at h
  cases h
  intro w
  simp [Tryz.sizeOf3]
theorem places43 {fs : Array Field} (h : Tryz.prog.underlying 43 = some (.struct fs)) : ∀ w, (fs.mapM (m := Sem) fun f => Prod.mk f.offset <$> sizeOf f.type).run Tryz.prog w = .ok #[(0, 1), (1, 1), (2, 1), (3, 1), (4, 1), (5, 1), (6, 1)] w := by
  rw [Tryz.underlying43] at h
  cases h
  intro w
  simp [Tryz.sizeOf3]
theorem places45 {fs : Array Field} (h : Tryz.prog.underlying 45 = some (.struct fs)) : ∀ w, (fs.mapM (m := Sem) fun f => Prod.mk f.offset <$> sizeOf f.type).run Tryz.prog w = .ok #[(0, 1), (1, 1), (2, 1), (3, 1), (4, 1), (5, 1), (6, 1)] w := by
  rw [Tryz.underlying45] at h
  cases h
  intro w
  simp [Tryz.sizeOf3]
theorem places51 {fs : Array Field} (h : Tryz.prog.underlying 51 = some (.struct fs)) : ∀ w, (fs.mapM (m := Sem) fun f => Prod.mk f.offset <$> sizeOf f.type).run Tryz.prog w = .ok #[(0, 1), (1, 1), (2, 1), (3, 1), (4, 1), (5, 1), (6, 1)] w := by
  rw [Tryz.underlying51] at h
  cases h
  intro w
  simp [Tryz.sizeOf3]
theorem places56 {fs : Array Field} (h : Tryz.prog.underlying 56 = some (.struct fs)) : ∀ w, (fs.mapM (m := Sem) fun f => Prod.mk f.offset <$> sizeOf f.type).run Tryz.prog w = .ok #[(0, 1), (1, 1), (2, 1), (3, 1), (4, 1), (5, 1), (6, 7), (13, 1)] w := by
  rw [Tryz.underlying56] at h
  cases h
  intro w
  simp [Tryz.sizeOf3, Tryz.sizeOf45, Tryz.sizeOf54]
theorem places62 {fs : Array Field} (h : Tryz.prog.underlying 62 = some (.struct fs)) : ∀ w, (fs.mapM (m := Sem) fun f => Prod.mk f.offset <$> sizeOf f.type).run Tryz.prog w = .ok #[(0, 1), (1, 6), (7, 7), (14, 9)] w := by
  rw [Tryz.underlying62] at h
  cases h
  intro w
  simp [Tryz.sizeOf3, Tryz.sizeOf41, Tryz.sizeOf43, Tryz.sizeOf47]
theorem places66 {fs : Array Field} (h : Tryz.prog.underlying 66 = some (.struct fs)) : ∀ w, (fs.mapM (m := Sem) fun f => Prod.mk f.offset <$> sizeOf f.type).run Tryz.prog w = .ok #[(0, 1), (1, 1), (2, 1), (3, 1), (4, 1), (5, 1), (6, 1)] w := by
  rw [Tryz.underlying66] at h
  cases h
  intro w
  simp [Tryz.sizeOf3]
theorem places68 {fs : Array Field} (h : Tryz.prog.underlying 68 = some (.struct fs)) : ∀ w, (fs.mapM (m := Sem) fun f => Prod.mk f.offset <$> sizeOf f.type).run Tryz.prog w = .ok #[(0, 7), (7, 1), (8, 1)] w := by
  rw [Tryz.underlying68] at h
  cases h
  intro w
  simp [Tryz.sizeOf3, Tryz.sizeOf60, Tryz.sizeOf66]
theorem places90 {fs : Array Field} (h : Tryz.prog.underlying 90 = some (.struct fs)) : ∀ w, (fs.mapM (m := Sem) fun f => Prod.mk f.offset <$> sizeOf f.type).run Tryz.prog w = .ok #[(0, 1), (1, 5), (6, 1), (7, 14), (21, 1), (22, 1), (23, 1), (24, 1), (25, 1), (26, 1), (27, 1), (28, 1), (29, 1), (30, 1)] w := by
  rw [Tryz.underlying90] at h
  cases h
  intro w
  simp [Tryz.sizeOf25, Tryz.sizeOf3, Tryz.sizeOf56, Tryz.sizeOf82, Tryz.sizeOf83, Tryz.sizeOf84, Tryz.sizeOf85, Tryz.sizeOf86, Tryz.sizeOf87, Tryz.sizeOf88]
theorem places172 {fs : Array Field} (h : Tryz.prog.underlying 172 = some (.struct fs)) : ∀ w, (fs.mapM (m := Sem) fun f => Prod.mk f.offset <$> sizeOf f.type).run Tryz.prog w = .ok #[(0, 1), (1, 1), (2, 1), (3, 1), (4, 7), (11, 1), (12, 1), (13, 1), (14, 1)] w := by
  rw [Tryz.underlying172] at h
  cases h
  intro w
  simp [Tryz.sizeOf167, Tryz.sizeOf168, Tryz.sizeOf169, Tryz.sizeOf170, Tryz.sizeOf3, Tryz.sizeOf45]
theorem places180 {fs : Array Field} (h : Tryz.prog.underlying 180 = some (.struct fs)) : ∀ w, (fs.mapM (m := Sem) fun f => Prod.mk f.offset <$> sizeOf f.type).run Tryz.prog w = .ok #[(0, 1), (1, 1), (2, 1), (3, 1)] w := by
  rw [Tryz.underlying180] at h
  cases h
  intro w
  simp [Tryz.sizeOf178, Tryz.sizeOf3, Tryz.sizeOf60]
theorem places182 {fs : Array Field} (h : Tryz.prog.underlying 182 = some (.struct fs)) : ∀ w, (fs.mapM (m := Sem) fun f => Prod.mk f.offset <$> sizeOf f.type).run Tryz.prog w = .ok #[(0, 1), (1, 1)] w := by
  rw [Tryz.underlying182] at h
  cases h
  intro w
  simp [Tryz.sizeOf3]
theorem places184 {fs : Array Field} (h : Tryz.prog.underlying 184 = some (.struct fs)) : ∀ w, (fs.mapM (m := Sem) fun f => Prod.mk f.offset <$> sizeOf f.type).run Tryz.prog w = .ok #[(0, 2)] w := by
  rw [Tryz.underlying184] at h
  cases h
  intro w
  simp [Tryz.sizeOf182]
theorem places188 {fs : Array Field} (h : Tryz.prog.underlying 188 = some (.struct fs)) : ∀ w, (fs.mapM (m := Sem) fun f => Prod.mk f.offset <$> sizeOf f.type).run Tryz.prog w = .ok #[(0, 1), (1, 1), (2, 1)] w := by
  rw [Tryz.underlying188] at h
  cases h
  intro w
  simp [Tryz.sizeOf22, Tryz.sizeOf3]
theorem places195 {fs : Array Field} (h : Tryz.prog.underlying 195 = some (.struct fs)) : ∀ w, (fs.mapM (m := Sem) fun f => Prod.mk f.offset <$> sizeOf f.type).run Tryz.prog w = .ok #[(0, 1), (1, 1)] w := by
  rw [Tryz.underlying195] at h
  cases h
  intro w
  simp [Tryz.sizeOf178, Tryz.sizeOf193]
theorem places206 {fs : Array Field} (h : Tryz.prog.underlying 206 = some (.struct fs)) : ∀ w, (fs.mapM (m := Sem) fun f => Prod.mk f.offset <$> sizeOf f.type).run Tryz.prog w = .ok #[(0, 1), (1, 1)] w := by
  rw [Tryz.underlying206] at h
  cases h
  intro w
  simp [Tryz.sizeOf163, Tryz.sizeOf3]
theorem places210 {fs : Array Field} (h : Tryz.prog.underlying 210 = some (.struct fs)) : ∀ w, (fs.mapM (m := Sem) fun f => Prod.mk f.offset <$> sizeOf f.type).run Tryz.prog w = .ok #[(0, 1), (1, 16)] w := by
  rw [Tryz.underlying210] at h
  cases h
  intro w
  simp [Tryz.sizeOf208, Tryz.sizeOf3]
theorem places215 {fs : Array Field} (h : Tryz.prog.underlying 215 = some (.struct fs)) : ∀ w, (fs.mapM (m := Sem) fun f => Prod.mk f.offset <$> sizeOf f.type).run Tryz.prog w = .ok #[(0, 1), (1, 1), (2, 40)] w := by
  rw [Tryz.underlying215] at h
  cases h
  intro w
  simp [Tryz.sizeOf213, Tryz.sizeOf3, Tryz.sizeOf4]
theorem places261 {fs : Array Field} (h : Tryz.prog.underlying 261 = some (.struct fs)) : ∀ w, (fs.mapM (m := Sem) fun f => Prod.mk f.offset <$> sizeOf f.type).run Tryz.prog w = .ok #[(0, 1), (1, 2)] w := by
  rw [Tryz.underlying261] at h
  cases h
  intro w
  simp [Tryz.sizeOf29, Tryz.sizeOf36]
theorem places273 {fs : Array Field} (h : Tryz.prog.underlying 273 = some (.struct fs)) : ∀ w, (fs.mapM (m := Sem) fun f => Prod.mk f.offset <$> sizeOf f.type).run Tryz.prog w = .ok #[(0, 1), (1, 1), (2, 1), (3, 1)] w := by
  rw [Tryz.underlying273] at h
  cases h
  intro w
  simp [Tryz.sizeOf3]
theorem places292 {fs : Array Field} (h : Tryz.prog.underlying 292 = some (.struct fs)) : ∀ w, (fs.mapM (m := Sem) fun f => Prod.mk f.offset <$> sizeOf f.type).run Tryz.prog w = .ok #[(0, 1)] w := by
  rw [Tryz.underlying292] at h
  cases h
  intro w
  simp [Tryz.sizeOf178]
theorem places294 {fs : Array Field} (h : Tryz.prog.underlying 294 = some (.struct fs)) : ∀ w, (fs.mapM (m := Sem) fun f => Prod.mk f.offset <$> sizeOf f.type).run Tryz.prog w = .ok #[(0, 1), (1, 1), (2, 1)] w := by
  rw [Tryz.underlying294] at h
  cases h
  intro w
  simp [Tryz.sizeOf292, Tryz.sizeOf3, Tryz.sizeOf52]
theorem places296 {fs : Array Field} (h : Tryz.prog.underlying 296 = some (.struct fs)) : ∀ w, (fs.mapM (m := Sem) fun f => Prod.mk f.offset <$> sizeOf f.type).run Tryz.prog w = .ok #[(0, 1), (1, 1), (2, 1), (3, 1)] w := by
  rw [Tryz.underlying296] at h
  cases h
  intro w
  simp [Tryz.sizeOf3, Tryz.sizeOf4]
theorem places302 {fs : Array Field} (h : Tryz.prog.underlying 302 = some (.struct fs)) : ∀ w, (fs.mapM (m := Sem) fun f => Prod.mk f.offset <$> sizeOf f.type).run Tryz.prog w = .ok #[(0, 1), (1, 128)] w := by
  rw [Tryz.underlying302] at h
  cases h
  intro w
  simp [Tryz.sizeOf3, Tryz.sizeOf300]
theorem places309 {fs : Array Field} (h : Tryz.prog.underlying 309 = some (.struct fs)) : ∀ w, (fs.mapM (m := Sem) fun f => Prod.mk f.offset <$> sizeOf f.type).run Tryz.prog w = .ok #[(0, 1), (1, 1)] w := by
  rw [Tryz.underlying309] at h
  cases h
  intro w
  simp [Tryz.sizeOf3]
theorem places311 {fs : Array Field} (h : Tryz.prog.underlying 311 = some (.struct fs)) : ∀ w, (fs.mapM (m := Sem) fun f => Prod.mk f.offset <$> sizeOf f.type).run Tryz.prog w = .ok #[(0, 3)] w := by
  rw [Tryz.underlying311] at h
  cases h
  intro w
  simp [Tryz.sizeOf95]
theorem places336 {fs : Array Field} (h : Tryz.prog.underlying 336 = some (.struct fs)) : ∀ w, (fs.mapM (m := Sem) fun f => Prod.mk f.offset <$> sizeOf f.type).run Tryz.prog w = .ok #[(0, 1), (1, 1), (2, 1), (3, 1), (4, 1)] w := by
  rw [Tryz.underlying336] at h
  cases h
  intro w
  simp [Tryz.sizeOf3, Tryz.sizeOf305]
theorem places345 {fs : Array Field} (h : Tryz.prog.underlying 345 = some (.struct fs)) : ∀ w, (fs.mapM (m := Sem) fun f => Prod.mk f.offset <$> sizeOf f.type).run Tryz.prog w = .ok #[(0, 9)] w := by
  rw [Tryz.underlying345] at h
  cases h
  intro w
  simp [Tryz.sizeOf68]
theorem fint51 {fs : Array Field} (h : Tryz.prog.underlying 51 = some (.struct fs)) : FInt Tryz.prog 0 fs.toList := by
  rw [Tryz.underlying51] at h
  cases h
  exact ⟨rfl, (by decide), Tryz.underlying3, rfl, (by decide), Tryz.underlying3, rfl, (by decide), Tryz.underlying3, rfl, (by decide), Tryz.underlying3, rfl, (by decide), Tryz.underlying3, rfl, (by decide), Tryz.underlying3, rfl, (by decide), Tryz.underlying3, trivial⟩

end Go.Proofs.YtohjlkjhpibkmaaGreatDoor
