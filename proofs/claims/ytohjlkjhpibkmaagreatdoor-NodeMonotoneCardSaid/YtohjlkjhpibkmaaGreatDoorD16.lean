/-
  Rules and plain laws that the walks use.
-/
import Derived.KernelRfl
import Derived.Test.YtohjlkjhpibkmaaGreatDoorD15
import Derived.Test.YtohjlkjhpibkmaaGreatDoorD02
import Derived.Lib.SlicesCompact
import Derived.Sort.OwnSortedInts
import Derived.Test.YtohjlkjhpibkmaaGreatDoorD04
import Derived.Lib.RowBridge
import Derived.Test.YtohjlkjhpibkmaaGreatDoorD03
import Derived.Lib.Join
import Derived.Lib.ItoaLen
import Derived.Lib.ItoaMem
set_option linter.unusedSimpArgs false
set_option linter.unusedVariables false
namespace Go.Proofs.YtohjlkjhpibkmaaGreatDoor
open Go Go.LK Go.Proofs.Tryz
set_option maxRecDepth 100000
set_option maxHeartbeats 4000000
theorem tb_has (p:Nat) (ttl:Int) (d:Sh.Ts) (to:Int):Tri prog 198 #[.pointer (some ⟨p,0,none⟩),.int .i64 to] [var p (Sh.tbC ttl d) 215] [] (fun v L'=>v=.bool (Sh.has to)∧L'=[]):=by
 refine Tri.en func198 H ntmps198 H fun w0=>J.co 7 H<|O.p (Pu.ptrNe underlying88 H) H<|O.oo 4 H<|O.gz (Qt.ld H (Cel.roVar 0 H) (o:=0) (off:=0) H (Cut.one A4 H)) H H<|O.oo 6 H ?_
 refine O.sd 17 H (fun p1=>?_) (fun p1=>?_)
 ·
  refine O.oc 5 H ?_
  exact J.r0 H H ⟨(by simp [vOf,Sh.has, *]),H⟩
 refine O.oc 5 H ?_
 exact J.r0 H H ⟨(by simp [vOf,Sh.has, *]),H⟩
theorem tb_New (ttl:Int) (hb:Sh.bad ttl=false):Tri prog 56 #[.int .i64 ttl] [] [] (fun v L'=>∃ p,v=.tuple #[.pointer (some ⟨p,0,none⟩),.int .i64 0]∧L'=[var p (Sh.tbC ttl Sh.nil) 215]):=by
 have hb2:¬(ttl < 0∨1099511627776 < ttl):=by simpa [Sh.bad] using hb
 refine Tri.en func56 H ntmps56 H fun w0=>J.co 11 H<|O.kf 6 H (decide_eq_false (by omega))<|O.oc 4 H<|J.condF H (decide_eq_false (by omega))<|J.co 4 H<|O.p (Pu.build [(0,.bool true),(1,.int .i64 ttl)] [.bool true,.int .i64 ttl,.bool false,.int .i64 0,.int .i64 0,.int .i64 0,.int .i64 0,.bool false,.int .i64 0,.int .i64 0,.int .i64 0,.int .i64 0,.bool false,.int .i64 0,.int .i64 0,.int .i64 0,.int .i64 0,.bool false,.int .i64 0,.int .i64 0,.int .i64 0,.int .i64 0,.bool false,.int .i64 0,.int .i64 0,.int .i64 0,.int .i64 0,.bool false,.int .i64 0,.int .i64 0,.int .i64 0,.int .i64 0,.bool false,.int .i64 0,.int .i64 0,.int .i64 0,.int .i64 0,.bool false,.int .i64 0,.int .i64 0,.int .i64 0,.int .i64 0] #[(0,1),(1,1),(2,40)] U215 zeroValue215 (places215 underlying215) H (by kernel_rfl)) H<|O.l (Lo.bx H H) H ?_
 rintro _ _ ⟨g1,rfl,rfl⟩
 refine O.oc 3 H ?_
 exact J.rn [_,_] [0] H ⟨H,H,trivial⟩ H ⟨g1,H,H⟩
theorem tb_Learn (p:Nat) (ttl:Int) (d:Sh.Ts) (to thr ep now:Int):Tri prog 93 #[.pointer (some ⟨p,0,none⟩),.int .i64 to,.int .i64 thr,.int .i64 ep,.int .i64 now] [] [var p (Sh.tbC ttl d) 215] (fun v L'=>∃ d',d'=(Sh.lrn d to thr ep now).1∧v=.bool (Sh.lrn d to thr ep now).2∧L'=[var p (Sh.tbC ttl d') 215]):=by
 refine Tri.en func93 H ntmps93 H fun w0=>J.co 9 H<|O.l (Lo.ca call198 (tb_has p ttl d to) [] H H (.own 0 H H .nil)) H ?_
 rintro _ _ ⟨_,⟨rfl,rfl⟩,rfl⟩
 refine O.oc 2 H ?_
 refine J.cond H (fun h2=>?_) (fun h2=>?_)
 ·
  have h3:(Sh.has to)=false:=not_flip h2
  refine J.cc 4 H ?_
  exact J.r1 [0] H H H ⟨_,H,(by rw [Sh.lrn_out (by assumption)];rfl),(by rw [Sh.lrn_out (by assumption)])⟩
 have h4:(Sh.has to)=true:=not_flip h2
 refine J.cc 2 H ?_
 have hto:=Sh.has_iff.1 (by assumption:Sh.has to=true)
 refine J.co 5 H<|O.p (Pu.indexAddrG U213 Z212 H H (by omega) (by omega)) H<|O.oc 4 H ?_
 refine by_bool ((d (to).toNat).isSome) (fun h5=>?_) (fun h5=>?_)
 ·
  obtain ⟨k,hd⟩:∃ k,d to.toNat=some k:=Option.isSome_iff_exists.1 h5
  have hkw:Sh.kw (d to.toNat)=k:=by rw [hd];rfl
  have hke:=congrArg Kw.ep hkw
  have hka:=congrArg Kw.at_ hkw
  refine J.co 3 H<|O.q (Qt.ld H (Cel.var 0 H) (o:=0) (off:=2+(to).toNat*5) (by omega) (Cut.agg [.bool ((d (to).toNat).isSome),.int .i64 ((Sh.kw (d (to).toNat)).to),.int .i64 ((Sh.kw (d (to).toNat)).thr),.int .i64 ((Sh.kw (d (to).toNat)).ep),.int .i64 ((Sh.kw (d (to).toNat)).at_)] isAgg212 Z212 (Sh.tb_all (by omega) H) H)) H<|O.p (Pu.build [] [.bool false,.int .i64 0,.int .i64 0,.int .i64 0,.int .i64 0] #[(0,1),(1,4)] U212 Y212 (places212 N212) H (by kernel_rfl)) H<|O.p (Pu.neqG (xs:=#[.bool ((d (to).toNat).isSome),.int .i64 ((Sh.kw (d (to).toNat)).to),.int .i64 ((Sh.kw (d (to).toNat)).thr),.int .i64 ((Sh.kw (d (to).toNat)).ep),.int .i64 ((Sh.kw (d (to).toNat)).at_)]) (ys:=#[.bool false,.int .i64 0,.int .i64 0,.int .i64 0,.int .i64 0]) eqGuardType212 (.struct N212 stoodInHeld212 (.cons H (partOne (v:=.bool ((d (to).toNat).isSome)) A4 H) (partOne (v:=.bool false) A4 H) (.bool N4) (.cons H (partAgg (l:=[.int .i64 ((Sh.kw (d (to).toNat)).to),.int .i64 ((Sh.kw (d (to).toNat)).thr),.int .i64 ((Sh.kw (d (to).toNat)).ep),.int .i64 ((Sh.kw (d (to).toNat)).at_)]) (n:=4) A175 Z175 (by kernel_rfl)) (partAgg (l:=[.int .i64 0,.int .i64 0,.int .i64 0,.int .i64 0]) (n:=4) A175 Z175 (by kernel_rfl)) (.struct N175 stoodInHeld175 (.cons H (partOne (v:=.int .i64 ((Sh.kw (d (to).toNat)).to)) A3 H) (partOne (v:=.int .i64 0) A3 H) (.int N3) (.cons H (partOne (v:=.int .i64 ((Sh.kw (d (to).toNat)).thr)) A3 H) (partOne (v:=.int .i64 0) A3 H) (.int N3) (.cons H (partOne (v:=.int .i64 ((Sh.kw (d (to).toNat)).ep)) A3 H) (partOne (v:=.int .i64 0) A3 H) (.int N3) (.cons H (partOne (v:=.int .i64 ((Sh.kw (d (to).toNat)).at_)) A3 H) (partOne (v:=.int .i64 0) A3 H) (.int N3) .nil))))) .nil))) H H) H<|O.oo 1 H<|O.kt 26 H (show (!((((d (to).toNat).isSome) == false)&&(((decide (((Sh.kw (d (to).toNat)).to)=0))&&((decide (((Sh.kw (d (to).toNat)).thr)=0))&&((decide (((Sh.kw (d (to).toNat)).ep)=0))&&((decide (((Sh.kw (d (to).toNat)).at_)=0))&&(true)))))&&(true))))=true from by simp [h5,hkw,Sh.zeroK])<|O.oo 4 H<|O.gz (Qt.ld H (Cel.var 0 H) (o:=0) (off:=2+(to).toNat*5+3) (by omega) (Cut.one A3 (Sh.tb_one (i:=3) (by omega) H H))) H H<|O.oc 4 H ?_
  refine J.cd H (fun p6=>?_) (fun p6=>?_)
  ·
   refine J.cc 4 H ?_
   exact J.r1 [0] H H H ⟨_,H,(by rw [Sh.lrn_late hd (by omega)];rfl),(by rw [Sh.lrn_late hd (by omega)])⟩
  refine J.co 7 H<|O.q (Qt.ld H (Cel.var 0 H) (o:=0) (off:=2+(to).toNat*5) (by omega) (Cut.one A4 (Sh.tb_one (i:=0) (by omega) H H))) H<|O.oo 2 H<|O.kf 40 H (show (!((d (to).toNat).isSome))=false from by rw [h5];rfl)<|O.oo 4 H<|O.gz (Qt.ld H (Cel.var 0 H) (o:=0) (off:=2+(to).toNat*5+3) (by omega) (Cut.one A3 (Sh.tb_one (i:=3) (by omega) H H))) H H<|O.oc 4 H ?_
  refine J.cd H (fun p7=>?_) (fun p7=>?_)
  ·
   refine J.co 5 H<|O.p (Pu.build [(0,.int .i64 to),(1,.int .i64 thr),(2,.int .i64 ep)] [.int .i64 to,.int .i64 thr,.int .i64 ep,.int .i64 0] #[(0,1),(1,1),(2,1),(3,1)] U175 Y175 (places175 N175) H (by kernel_rfl)) H<|O.p (Pu.build [(0,.bool true),(1,.agg #[.int .i64 to,.int .i64 thr,.int .i64 ep,.int .i64 0])] [.bool true,.int .i64 to,.int .i64 thr,.int .i64 ep,.int .i64 0] #[(0,1),(1,4)] U212 Y212 (places212 N212) H (by kernel_rfl)) H<|O.oo 1 H<|O.l0 (Lo.store 0 (vs:=[.bool true,.int .i64 to,.int .i64 thr,.int .i64 ep,.int .i64 0]) (Sh.tbC ttl (Sh.upd d to (⟨to,thr,ep,0⟩:Kw))) H H H Z212 H H H (Sh.tb_set5 (to:=to) (d:=d) (k:=(⟨to,thr,ep,0⟩:Kw)) (by omega) (by omega)) (Sh.tb_fit (to:=to) (i:=0) (n:=5) (by omega) (by omega) (by decide))) ?_
   rintro _ _ rfl
   refine O.oo 5 H<|O.l (Lo.ca C199 (bd_Keep now 1099511627776) [] H H .nil) H ?_
   rintro _ _ ⟨_,⟨rfl,rfl⟩,rfl⟩
   refine O.oo 3 H<|O.l0 (Lo.store 0 (vs:=[.int .i64 (Sh.keep now 1099511627776)]) (Sh.tbC ttl (Sh.upd (Sh.upd d to (⟨to,thr,ep,0⟩:Kw)) to (Sh.atK (Sh.upd d to (⟨to,thr,ep,0⟩:Kw)) to (Sh.keep now 1099511627776)))) H H H Z3 H H H (Sh.tb_set1 (to:=to) (d:=(Sh.upd d to (⟨to,thr,ep,0⟩:Kw))) (by omega) (by omega) (by rw [Sh.upd_self hto.1];rfl) (Sh.keep now 1099511627776)) (Sh.tb_fit (to:=to) (i:=4) (n:=1) (by omega) (by omega) (by decide))) ?_
   rintro _ _ rfl
   refine O.oc 5 H ?_
   exact J.r1 [0] H H H ⟨_,H,(by rw [Sh.lrn_more (by assumption) hd (by omega)];rfl),(by rw [Sh.lrn_more (by assumption) hd (by omega)];rw [Sh.upd_upd];first|(simp only [Sh.atK,Sh.upd_self hto.1,Sh.kw];rfl)|(simp only [Sh.atK,hkw];rfl))⟩
  refine J.co 5 H<|O.l (Lo.ca C199 (bd_Keep now 1099511627776) [] H H .nil) H ?_
  rintro _ _ ⟨_,⟨rfl,rfl⟩,rfl⟩
  refine O.oo 3 H<|O.l0 (Lo.store 0 (vs:=[.int .i64 (Sh.keep now 1099511627776)]) (Sh.tbC ttl (Sh.upd d to (Sh.atK d to (Sh.keep now 1099511627776)))) H H H Z3 H H H (Sh.tb_set1 (to:=to) (d:=d) (by omega) (by omega) (by rw [hd];rfl) (Sh.keep now 1099511627776)) (Sh.tb_fit (to:=to) (i:=4) (n:=1) (by omega) (by omega) (by decide))) ?_
  rintro _ _ rfl
  refine O.oc 5 H ?_
  exact J.r1 [0] H H H ⟨_,H,(by rw [Sh.lrn_same (by assumption) hd (by omega)];rfl),(by rw [Sh.lrn_same (by assumption) hd (by omega)];first|(simp only [Sh.atK,Sh.upd_self hto.1,Sh.kw];rfl)|(simp only [Sh.atK,hkw];rfl))⟩
 have hd:d to.toNat=none:=by simpa using h5
 have hkw:Sh.kw (d to.toNat)=Sh.zeroK:=by rw [hd];rfl
 refine J.co 3 H<|O.q (Qt.ld H (Cel.var 0 H) (o:=0) (off:=2+(to).toNat*5) (by omega) (Cut.agg [.bool ((d (to).toNat).isSome),.int .i64 ((Sh.kw (d (to).toNat)).to),.int .i64 ((Sh.kw (d (to).toNat)).thr),.int .i64 ((Sh.kw (d (to).toNat)).ep),.int .i64 ((Sh.kw (d (to).toNat)).at_)] isAgg212 Z212 (Sh.tb_all (by omega) H) H)) H<|O.p (Pu.build [] [.bool false,.int .i64 0,.int .i64 0,.int .i64 0,.int .i64 0] #[(0,1),(1,4)] U212 Y212 (places212 N212) H (by kernel_rfl)) H<|O.p (Pu.neqG (xs:=#[.bool ((d (to).toNat).isSome),.int .i64 ((Sh.kw (d (to).toNat)).to),.int .i64 ((Sh.kw (d (to).toNat)).thr),.int .i64 ((Sh.kw (d (to).toNat)).ep),.int .i64 ((Sh.kw (d (to).toNat)).at_)]) (ys:=#[.bool false,.int .i64 0,.int .i64 0,.int .i64 0,.int .i64 0]) eqGuardType212 (.struct N212 stoodInHeld212 (.cons H (partOne (v:=.bool ((d (to).toNat).isSome)) A4 H) (partOne (v:=.bool false) A4 H) (.bool N4) (.cons H (partAgg (l:=[.int .i64 ((Sh.kw (d (to).toNat)).to),.int .i64 ((Sh.kw (d (to).toNat)).thr),.int .i64 ((Sh.kw (d (to).toNat)).ep),.int .i64 ((Sh.kw (d (to).toNat)).at_)]) (n:=4) A175 Z175 (by kernel_rfl)) (partAgg (l:=[.int .i64 0,.int .i64 0,.int .i64 0,.int .i64 0]) (n:=4) A175 Z175 (by kernel_rfl)) (.struct N175 stoodInHeld175 (.cons H (partOne (v:=.int .i64 ((Sh.kw (d (to).toNat)).to)) A3 H) (partOne (v:=.int .i64 0) A3 H) (.int N3) (.cons H (partOne (v:=.int .i64 ((Sh.kw (d (to).toNat)).thr)) A3 H) (partOne (v:=.int .i64 0) A3 H) (.int N3) (.cons H (partOne (v:=.int .i64 ((Sh.kw (d (to).toNat)).ep)) A3 H) (partOne (v:=.int .i64 0) A3 H) (.int N3) (.cons H (partOne (v:=.int .i64 ((Sh.kw (d (to).toNat)).at_)) A3 H) (partOne (v:=.int .i64 0) A3 H) (.int N3) .nil))))) .nil))) H H) H<|O.oo 1 H<|O.kf 26 H (show (!((((d (to).toNat).isSome) == false)&&(((decide (((Sh.kw (d (to).toNat)).to)=0))&&((decide (((Sh.kw (d (to).toNat)).thr)=0))&&((decide (((Sh.kw (d (to).toNat)).ep)=0))&&((decide (((Sh.kw (d (to).toNat)).at_)=0))&&(true)))))&&(true))))=false from by simp [h5,hkw,Sh.zeroK])<|O.oo 17 H<|O.q (Qt.ld H (Cel.var 0 H) (o:=0) (off:=2+(to).toNat*5) (by omega) (Cut.one A4 (Sh.tb_one (i:=0) (by omega) H H))) H<|O.oo 2 H<|O.kt 40 H (show (!((d (to).toNat).isSome))=true from by rw [h5];rfl)<|O.oo 15 H<|O.p (Pu.build [(0,.int .i64 to),(1,.int .i64 thr),(2,.int .i64 ep)] [.int .i64 to,.int .i64 thr,.int .i64 ep,.int .i64 0] #[(0,1),(1,1),(2,1),(3,1)] U175 Y175 (places175 N175) H (by kernel_rfl)) H<|O.p (Pu.build [(0,.bool true),(1,.agg #[.int .i64 to,.int .i64 thr,.int .i64 ep,.int .i64 0])] [.bool true,.int .i64 to,.int .i64 thr,.int .i64 ep,.int .i64 0] #[(0,1),(1,4)] U212 Y212 (places212 N212) H (by kernel_rfl)) H<|O.oo 1 H<|O.l0 (Lo.store 0 (vs:=[.bool true,.int .i64 to,.int .i64 thr,.int .i64 ep,.int .i64 0]) (Sh.tbC ttl (Sh.upd d to (⟨to,thr,ep,0⟩:Kw))) H H H Z212 H H H (Sh.tb_set5 (to:=to) (d:=d) (k:=(⟨to,thr,ep,0⟩:Kw)) (by omega) (by omega)) (Sh.tb_fit (to:=to) (i:=0) (n:=5) (by omega) (by omega) (by decide))) ?_
 rintro _ _ rfl
 refine O.oo 5 H<|O.l (Lo.ca C199 (bd_Keep now 1099511627776) [] H H .nil) H ?_
 rintro _ _ ⟨_,⟨rfl,rfl⟩,rfl⟩
 refine O.oo 3 H<|O.l0 (Lo.store 0 (vs:=[.int .i64 (Sh.keep now 1099511627776)]) (Sh.tbC ttl (Sh.upd (Sh.upd d to (⟨to,thr,ep,0⟩:Kw)) to (Sh.atK (Sh.upd d to (⟨to,thr,ep,0⟩:Kw)) to (Sh.keep now 1099511627776)))) H H H Z3 H H H (Sh.tb_set1 (to:=to) (d:=(Sh.upd d to (⟨to,thr,ep,0⟩:Kw))) (by omega) (by omega) (by rw [Sh.upd_self hto.1];rfl) (Sh.keep now 1099511627776)) (Sh.tb_fit (to:=to) (i:=4) (n:=1) (by omega) (by omega) (by decide))) ?_
 rintro _ _ rfl
 refine O.oc 5 H ?_
 exact J.r1 [0] H H H ⟨_,H,(by rw [Sh.lrn_new (by assumption) hd];rfl),(by rw [Sh.lrn_new (by assumption) hd];rw [Sh.upd_upd];first|(simp only [Sh.atK,Sh.upd_self hto.1,Sh.kw];rfl)|(simp only [Sh.atK,hkw];rfl))⟩
theorem tb_Get (p:Nat) (ttl:Int) (d:Sh.Ts) (to now:Int):Tri prog 120 #[.pointer (some ⟨p,0,none⟩),.int .i64 to,.int .i64 now] [var p (Sh.tbC ttl d) 215] [] (fun v L'=>v=.tuple #[.agg #[.int .i64 (((Sh.get d ttl to now).1).to),.int .i64 (((Sh.get d ttl to now).1).thr),.int .i64 (((Sh.get d ttl to now).1).ep),.int .i64 (((Sh.get d ttl to now).1).at_)],.bool (Sh.get d ttl to now).2]∧L'=[]):=by
 refine Tri.en func120 H ntmps120 H fun w0=>J.co 2 H<|O.l (Lo.al Y175 H) H ?_
 rintro _ _ ⟨g1,rfl,rfl⟩
 refine O.oc 4 H ?_
 refine by_bool (Sh.has to) (fun h2=>?_) (fun h2=>?_)
 ·
  have hto:=Sh.has_iff.1 h2
  refine by_bool ((d (to).toNat).isSome) (fun h3=>?_) (fun h3=>?_)
  ·
   obtain ⟨k,hd⟩:∃ k,d to.toNat=some k:=Option.isSome_iff_exists.1 h3
   have hkw:Sh.kw (d to.toNat)=k:=by rw [hd];rfl
   have hke:=congrArg Kw.ep hkw
   have hka:=congrArg Kw.at_ hkw
   refine J.dm [(0,false),(1,false),(2,false),(3,false),(4,false),(5,false),(6,false),(7,false),(8,false),(9,false),(10,false),(11,false),(12,false),(13,false),(14,false),(15,false),(16,false),(17,false),(18,false),(19,false),(20,false),(21,false),(22,false),(23,false),(24,false),(25,false),(26,false),(27,false),(28,false),(29,false),(30,false)] [] Tryz.mixed (by kernel_rfl) H<|Mx.r 2 H<|Mx.call (vs:=[.pointer (some ⟨p,0,none⟩),.int .i64 to]) (caps:=[]) H (by exact call198) H H (tb_has p ttl d to) (fun _ _ h=>h) (RoOk.ro 0 H [] H RoOk.nil) H<|Mx.r 2 H<|Mx.gq (t:=12) H H H (not_of_true h2) H (Pu.qt (Pu.move H)) H<|Mx.gq (t:=12) H H H (not_of_true h2) H (Pu.qt (Pu.move H)) H<|Mx.gq (t:=12) H H H (not_of_true h2) H (Pu.qt (Pu.nilCheck H)) H<|Mx.gq (t:=12) H H H (not_of_true h2) H (Pu.qt (Pu.fieldAddr (off':=2) U215 H sizeOf213 H H H)) H<|Mx.gq (t:=12) H H H (not_of_true h2) H (Pu.qt (Pu.indexAddrG U213 Z212 H H (by omega) (by omega))) H<|Mx.gq (t:=12) H H H (not_of_true h2) H (Pu.qt (Pu.fieldAddr (off':=2+(to).toNat*5+0) U212 H Z4 H H H)) H<|Mx.gq (t:=12) H H H (not_of_true h2) H (Qt.ld H (Cel.roVar 0 H) (o:=0) (off:=2+(to).toNat*5) (by omega) (Cut.one A4 (Sh.tb_one (i:=0) (by omega) H H))) H<|Mx.gq (t:=12) H H H (not_of_true h2) H (Pu.qt (Pu.not H)) H<|Mx.p H (Pu.pickF H (not_of_true h2) H) H<|Mx.r 1 H<|Mx.gq (t:=22) H H H (show (!((d (to).toNat).isSome))=false from by rw [h3];rfl) H (Pu.qt (Pu.move H)) H<|Mx.gq (t:=22) H H H (show (!((d (to).toNat).isSome))=false from by rw [h3];rfl) H (Pu.qt (Pu.move H)) H<|Mx.gq (t:=22) H H H (show (!((d (to).toNat).isSome))=false from by rw [h3];rfl) H (Pu.qt (Pu.move H)) H<|Mx.gq (t:=22) H H H (show (!((d (to).toNat).isSome))=false from by rw [h3];rfl) H (Pu.qt (Pu.nilCheck H)) H<|Mx.gq (t:=22) H H H (show (!((d (to).toNat).isSome))=false from by rw [h3];rfl) H (Pu.qt (Pu.fieldAddr (off':=2) U215 H sizeOf213 H H H)) H<|Mx.gq (t:=22) H H H (show (!((d (to).toNat).isSome))=false from by rw [h3];rfl) H (Pu.qt (Pu.indexAddrG U213 Z212 H H (by omega) (by omega))) H ?_
   refine Mx.gq (t:=22) H H H (show (!((d (to).toNat).isSome))=false from by rw [h3];rfl) H (Pu.qt (Pu.fieldAddr (off':=2+(to).toNat*5+1) U212 H Z175 H H H)) H<|Mx.gq (t:=22) H H H (show (!((d (to).toNat).isSome))=false from by rw [h3];rfl) H (Pu.qt (Pu.fieldAddr (off':=2+(to).toNat*5+1+3) U175 H Z3 H H H)) H<|Mx.gq (t:=22) H H H (show (!((d (to).toNat).isSome))=false from by rw [h3];rfl) H (Qt.ld H (Cel.roVar 0 H) (o:=0) (off:=2+(to).toNat*5+4) (by omega) (Cut.one A3 (Sh.tb_one (i:=4) (by omega) H H))) H<|Mx.gcall (vs:=[.int .i64 now,.int .i64 ((Sh.kw (d (to).toNat)).at_)]) (caps:=[]) (t:=22) H H H (show (!((d (to).toNat).isSome))=false from by rw [h3];rfl) H (by exact call187) H H (bd_Left now ((Sh.kw (d (to).toNat)).at_)) (fun _ _ h=>h) RoOk.nil H<|Mx.gq (t:=22) H H H (show (!((d (to).toNat).isSome))=false from by rw [h3];rfl) H (Pu.qt (Pu.move H)) H<|Mx.gq (t:=22) H H H (show (!((d (to).toNat).isSome))=false from by rw [h3];rfl) H (Pu.qt (Pu.nilCheck H)) H<|Mx.gq (t:=22) H H H (show (!((d (to).toNat).isSome))=false from by rw [h3];rfl) H (Pu.qt (Pu.fieldAddr (off':=1) U215 H Z3 H H H)) H<|Mx.gq (t:=22) H H H (show (!((d (to).toNat).isSome))=false from by rw [h3];rfl) H (Qt.ld H (Cel.roVar 0 H) (o:=0) (off:=1) H (Cut.one A3 H)) H<|Mx.gq (t:=22) H H H (show (!((d (to).toNat).isSome))=false from by rw [h3];rfl) H (Pu.qt (Pu.gtr H H)) H<|Mx.p H (Pu.pickF H (show (!((d (to).toNat).isSome))=false from by rw [h3];rfl) H) H<|Mx.nil ?_
   refine J.cd H (fun p4=>?_) (fun p4=>?_)
   ·
    refine J.co 2 H<|O.p (Pu.build [] [.int .i64 0,.int .i64 0,.int .i64 0,.int .i64 0] #[(0,1),(1,1),(2,1),(3,1)] U175 Y175 (places175 N175) H (by kernel_rfl)) H<|O.l0 (Lo.st 0 Z175 H H H H H H H) ?_
    rintro _ _ rfl
    refine O.oc 2 H ?_
    exact J.rn [_,_] [] H ⟨⟨_,_,0,0,_,H,(Cel.var 0 H),H,(Cut.agg [.int .i64 0,.int .i64 0,.int .i64 0,.int .i64 0] A175 Z175 H H)⟩,H,trivial⟩ H ⟨(by rw [Sh.get_old hd (by rw [←hka];omega)];first|rfl|(simp only [vOf,hkw];done)),H⟩
   refine J.co 7 H<|O.p (Pu.indexAddrG U213 Z212 H H (by omega) (by omega)) H<|O.oo 1 H<|O.q (Qt.ld H (Cel.roVar 0 H) (o:=0) (off:=2+(to).toNat*5+1) (by omega) (Cut.agg [.int .i64 ((Sh.kw (d (to).toNat)).to),.int .i64 ((Sh.kw (d (to).toNat)).thr),.int .i64 ((Sh.kw (d (to).toNat)).ep),.int .i64 ((Sh.kw (d (to).toNat)).at_)] A175 Z175 (Sh.tb_kw (by omega) H) H)) H<|O.l0 (Lo.st 0 Z175 H H H H H H H) ?_
   rintro _ _ rfl
   refine O.oc 2 H ?_
   exact J.rn [_,_] [] H ⟨⟨_,_,0,0,_,H,(Cel.var 0 H),H,(Cut.agg [.int .i64 ((Sh.kw (d (to).toNat)).to),.int .i64 ((Sh.kw (d (to).toNat)).thr),.int .i64 ((Sh.kw (d (to).toNat)).ep),.int .i64 ((Sh.kw (d (to).toNat)).at_)] A175 Z175 H H)⟩,H,trivial⟩ H ⟨(by rw [Sh.get_yes (by assumption) hd (by rw [←hka];omega)];first|rfl|(simp only [vOf,hkw];done)),H⟩
  have hd:d to.toNat=none:=by simpa using h3
  have hkw:Sh.kw (d to.toNat)=Sh.zeroK:=by rw [hd];rfl
  refine J.dm [(0,false),(1,false),(2,false),(3,false),(4,false),(5,false),(6,false),(7,false),(8,false),(9,false),(10,false),(11,false),(12,false),(13,false),(14,false),(15,false),(16,false),(17,false),(18,false),(19,false),(20,false),(21,false),(22,false),(23,false),(24,false),(25,false),(26,false),(27,false),(28,false),(29,false),(30,false)] [] Tryz.mixed (by kernel_rfl) H<|Mx.r 2 H<|Mx.call (vs:=[.pointer (some ⟨p,0,none⟩),.int .i64 to]) (caps:=[]) H (by exact call198) H H (tb_has p ttl d to) (fun _ _ h=>h) (RoOk.ro 0 H [] H RoOk.nil) H<|Mx.r 2 H<|Mx.gq (t:=12) H H H (not_of_true h2) H (Pu.qt (Pu.move H)) H<|Mx.gq (t:=12) H H H (not_of_true h2) H (Pu.qt (Pu.move H)) H<|Mx.gq (t:=12) H H H (not_of_true h2) H (Pu.qt (Pu.nilCheck H)) H<|Mx.gq (t:=12) H H H (not_of_true h2) H (Pu.qt (Pu.fieldAddr (off':=2) U215 H sizeOf213 H H H)) H<|Mx.gq (t:=12) H H H (not_of_true h2) H (Pu.qt (Pu.indexAddrG U213 Z212 H H (by omega) (by omega))) H<|Mx.gq (t:=12) H H H (not_of_true h2) H (Pu.qt (Pu.fieldAddr (off':=2+(to).toNat*5+0) U212 H Z4 H H H)) H<|Mx.gq (t:=12) H H H (not_of_true h2) H (Qt.ld H (Cel.roVar 0 H) (o:=0) (off:=2+(to).toNat*5) (by omega) (Cut.one A4 (Sh.tb_one (i:=0) (by omega) H H))) H<|Mx.gq (t:=12) H H H (not_of_true h2) H (Pu.qt (Pu.not H)) H<|Mx.p H (Pu.pickF H (not_of_true h2) H) H<|Mx.r 1 H<|Mx.gskip (t:=22) H H H (no_bool (by rw [(show (!((d (to).toNat).isSome))=true from by rw [h3];rfl)];decide)) H H<|Mx.gskip (t:=22) H H H (no_bool (by rw [(show (!((d (to).toNat).isSome))=true from by rw [h3];rfl)];decide)) H H<|Mx.gskip (t:=22) H H H (no_bool (by rw [(show (!((d (to).toNat).isSome))=true from by rw [h3];rfl)];decide)) H H<|Mx.gskip (t:=22) H H H (no_bool (by rw [(show (!((d (to).toNat).isSome))=true from by rw [h3];rfl)];decide)) H H<|Mx.gskip (t:=22) H H H (no_bool (by rw [(show (!((d (to).toNat).isSome))=true from by rw [h3];rfl)];decide)) H H<|Mx.gskip (t:=22) H H H (no_bool (by rw [(show (!((d (to).toNat).isSome))=true from by rw [h3];rfl)];decide)) H H ?_
  refine Mx.gskip (t:=22) H H H (no_bool (by rw [(show (!((d (to).toNat).isSome))=true from by rw [h3];rfl)];decide)) H H<|Mx.gskip (t:=22) H H H (no_bool (by rw [(show (!((d (to).toNat).isSome))=true from by rw [h3];rfl)];decide)) H H<|Mx.gskip (t:=22) H H H (no_bool (by rw [(show (!((d (to).toNat).isSome))=true from by rw [h3];rfl)];decide)) H H<|Mx.gskip (t:=22) H H H (no_bool (by rw [(show (!((d (to).toNat).isSome))=true from by rw [h3];rfl)];decide)) H H<|Mx.gskip (t:=22) H H H (no_bool (by rw [(show (!((d (to).toNat).isSome))=true from by rw [h3];rfl)];decide)) H H<|Mx.gskip (t:=22) H H H (no_bool (by rw [(show (!((d (to).toNat).isSome))=true from by rw [h3];rfl)];decide)) H H<|Mx.gskip (t:=22) H H H (no_bool (by rw [(show (!((d (to).toNat).isSome))=true from by rw [h3];rfl)];decide)) H H<|Mx.gskip (t:=22) H H H (no_bool (by rw [(show (!((d (to).toNat).isSome))=true from by rw [h3];rfl)];decide)) H H<|Mx.gskip (t:=22) H H H (no_bool (by rw [(show (!((d (to).toNat).isSome))=true from by rw [h3];rfl)];decide)) H H<|Mx.p H (Pu.pickT H (show (!((d (to).toNat).isSome))=true from by rw [h3];rfl) H) H<|Mx.nil<|J.co 3 H<|O.p (Pu.build [] [.int .i64 0,.int .i64 0,.int .i64 0,.int .i64 0] #[(0,1),(1,1),(2,1),(3,1)] U175 Y175 (places175 N175) H (by kernel_rfl)) H<|O.l0 (Lo.st 0 Z175 H H H H H H H) ?_
  rintro _ _ rfl
  refine O.oc 2 H ?_
  exact J.rn [_,_] [] H ⟨⟨_,_,0,0,_,H,(Cel.var 0 H),H,(Cut.agg [.int .i64 0,.int .i64 0,.int .i64 0,.int .i64 0] A175 Z175 H H)⟩,H,trivial⟩ H ⟨(by rw [Sh.get_none hd];first|rfl|(simp only [vOf,hkw];done)),H⟩
 refine J.dm [(0,false),(1,false),(2,false),(3,false),(4,false),(5,false),(6,false),(7,false),(8,false),(9,false),(10,false),(11,false),(12,false),(13,false),(14,false),(15,false),(16,false),(17,false),(18,false),(19,false),(20,false),(21,false),(22,false),(23,false),(24,false),(25,false),(26,false),(27,false),(28,false),(29,false),(30,false)] [] Tryz.mixed (by kernel_rfl) H<|Mx.r 2 H<|Mx.call (vs:=[.pointer (some ⟨p,0,none⟩),.int .i64 to]) (caps:=[]) H (by exact call198) H H (tb_has p ttl d to) (fun _ _ h=>h) (RoOk.ro 0 H [] H RoOk.nil) H<|Mx.r 2 H<|Mx.gskip (t:=12) H H H (no_bool (by rw [(not_of_false h2)];decide)) H H<|Mx.gskip (t:=12) H H H (no_bool (by rw [(not_of_false h2)];decide)) H H<|Mx.gskip (t:=12) H H H (no_bool (by rw [(not_of_false h2)];decide)) H H<|Mx.gskip (t:=12) H H H (no_bool (by rw [(not_of_false h2)];decide)) H H<|Mx.gskip (t:=12) H H H (no_bool (by rw [(not_of_false h2)];decide)) H H<|Mx.gskip (t:=12) H H H (no_bool (by rw [(not_of_false h2)];decide)) H H<|Mx.gskip (t:=12) H H H (no_bool (by rw [(not_of_false h2)];decide)) H H<|Mx.gskip (t:=12) H H H (no_bool (by rw [(not_of_false h2)];decide)) H H<|Mx.p H (Pu.pickT H (not_of_false h2) H) H<|Mx.r 17 H<|Mx.nil<|J.co 3 H<|O.p (Pu.build [] [.int .i64 0,.int .i64 0,.int .i64 0,.int .i64 0] #[(0,1),(1,1),(2,1),(3,1)] U175 Y175 (places175 N175) H (by kernel_rfl)) H<|O.l0 (Lo.st 0 Z175 H H H H H H H) ?_
 rintro _ _ rfl
 refine O.oc 2 H ?_
 exact J.rn [_,_] [] H ⟨⟨_,_,0,0,_,H,(Cel.var 0 H),H,(Cut.agg [.int .i64 0,.int .i64 0,.int .i64 0,.int .i64 0] A175 Z175 H H)⟩,H,trivial⟩ H ⟨(by rw [Sh.get_out (by assumption)];first|rfl|(simp only [vOf,hkw];done)),H⟩
theorem tb_Clear (p:Nat) (ttl:Int) (d:Sh.Ts):Tri prog 111 #[.pointer (some ⟨p,0,none⟩)] [] [var p (Sh.tbC ttl d) 215] (fun v L'=>v=.tuple #[]∧L'=[var p (Sh.tbC ttl Sh.nil) 215]):=by
 refine Tri.en func111 H ntmps111 H fun w0=>J.co 3 H<|O.p (Pu.ptrNe underlying88 H) H<|O.oo 4 H<|O.p (Pu.buildA [] [.bool false,.int .i64 0,.int .i64 0,.int .i64 0,.int .i64 0,.bool false,.int .i64 0,.int .i64 0,.int .i64 0,.int .i64 0,.bool false,.int .i64 0,.int .i64 0,.int .i64 0,.int .i64 0,.bool false,.int .i64 0,.int .i64 0,.int .i64 0,.int .i64 0,.bool false,.int .i64 0,.int .i64 0,.int .i64 0,.int .i64 0,.bool false,.int .i64 0,.int .i64 0,.int .i64 0,.int .i64 0,.bool false,.int .i64 0,.int .i64 0,.int .i64 0,.int .i64 0,.bool false,.int .i64 0,.int .i64 0,.int .i64 0,.int .i64 0] U213 zeroValue213 Z212 H (by kernel_rfl)) H<|O.oo 2 H<|O.l0 (Lo.store 0 (vs:=[.bool false,.int .i64 0,.int .i64 0,.int .i64 0,.int .i64 0,.bool false,.int .i64 0,.int .i64 0,.int .i64 0,.int .i64 0,.bool false,.int .i64 0,.int .i64 0,.int .i64 0,.int .i64 0,.bool false,.int .i64 0,.int .i64 0,.int .i64 0,.int .i64 0,.bool false,.int .i64 0,.int .i64 0,.int .i64 0,.int .i64 0,.bool false,.int .i64 0,.int .i64 0,.int .i64 0,.int .i64 0,.bool false,.int .i64 0,.int .i64 0,.int .i64 0,.int .i64 0,.bool false,.int .i64 0,.int .i64 0,.int .i64 0,.int .i64 0]) (Sh.tbC ttl Sh.nil) H H H sizeOf213 H H H H H) ?_
 rintro _ _ rfl
 refine O.nil ?_
 exact J.dn [] [0] H trivial H ⟨H,H⟩
end Go.Proofs.YtohjlkjhpibkmaaGreatDoor
namespace Go.LK.Jb
open Go Go.LK
def ins0:List Int→Int→List Int
  | [],x=>[x]
  | y :: o,x=>if y < x then y :: ins0 o x else x :: y :: o
def ins (o:List Int) (x:Int):List Int:=if x∈o then o else ins0 o x
def rising (l:List Int):List Int:=l.foldl ins []
abbrev Up (o:List Int):Prop:=o.Pairwise (· < ·)
theorem mem_ins0 {o:List Int} {x y:Int}:y∈ins0 o x↔y=x∨y∈o:=by
  induction o with
  | nil=>simp [ins0]
  | cons z o ih =>
    unfold ins0
    split
    · simp only [List.mem_cons,ih]
      constructor
      · rintro (h|h|h)<;>simp [h]
      · rintro (h|h|h)<;>simp [h]
    · simp only [List.mem_cons]
theorem up_ins0 {o:List Int} {x:Int} (h:Up o) (hx:x∉o):Up (ins0 o x):=by
  induction o with
  | nil=>simp [ins0]
  | cons z o ih =>
    have hz:=List.pairwise_cons.1 h
    have hxz:x≠z:=fun he=>hx (by simp [he])
    unfold ins0
    split
    · rename_i hlt
      refine List.pairwise_cons.2 ⟨fun y hy=>?_,ih hz.2 fun he=>hx (List.mem_cons_of_mem _ he)⟩
      rcases mem_ins0.1 hy with rfl|hy
      · exact hlt
      · exact hz.1 y hy
    · rename_i hlt
      refine List.pairwise_cons.2 ⟨fun y hy=>?_,h⟩
      rcases List.mem_cons.1 hy with rfl|hy
      · omega
      · have:=hz.1 y hy
        omega
theorem mem_ins {o:List Int} {x y:Int}:y∈ins o x↔y=x∨y∈o:=by
  unfold ins
  split
  · rename_i h
    constructor
    · exact .inr
    · rintro (rfl|h2)
      · exact h
      · exact h2
  · exact mem_ins0
theorem up_ins {o:List Int} {x:Int} (h:Up o):Up (ins o x):=by
  unfold ins
  split
  · exact h
  · exact up_ins0 h (by assumption)
theorem up_foldl {l o:List Int} (h:Up o):Up (l.foldl ins o):=by
  induction l generalizing o with
  | nil=>exact h
  | cons x l ih=>exact ih (up_ins h)
theorem mem_foldl {l o:List Int} {y:Int}:y∈l.foldl ins o↔y∈l∨y∈o:=by
  induction l generalizing o with
  | nil=>simp
  | cons x l ih =>
    rw [List.foldl_cons,ih,mem_ins,List.mem_cons]
    constructor
    · rintro (h|h|h)<;>simp [h]
    · rintro ((h|h)|h)<;>simp [h]
theorem rising_up (l:List Int):Up (rising l):=up_foldl .nil
theorem mem_rising {l:List Int} {y:Int}:y∈rising l↔y∈l:=by rw [rising,mem_foldl];simp
theorem up_ext {a b:List Int} (ha:Up a) (hb:Up b) (h:∀ x,x∈a↔x∈b):a=b:=by
  induction a generalizing b with
  | nil =>
    cases b with
    | nil=>rfl
    | cons y b=>exact absurd ((h y).2 (by simp)) (by simp)
  | cons x a ih =>
    cases b with
    | nil=>exact absurd ((h x).1 (by simp)) (by simp)
    | cons y b =>
      have h1:=List.pairwise_cons.1 ha
      have h2:=List.pairwise_cons.1 hb
      have hxy:x=y:=by
        rcases List.mem_cons.1 ((h x).1 (by simp)) with he|he
        · exact he
        · rcases List.mem_cons.1 ((h y).2 (by simp)) with hf|hf
          · exact hf.symm
          · have:=h2.1 x he;have:=h1.1 y hf;omega
      subst hxy
      rw [ih h1.2 h2.2 fun z=>⟨fun hz=>?_,fun hz=>?_⟩]
      · rcases List.mem_cons.1 ((h z).1 (List.mem_cons_of_mem _ hz)) with he|he
        · have:=h1.1 z hz;omega
        · exact he
      · rcases List.mem_cons.1 ((h z).2 (List.mem_cons_of_mem _ hz)) with he|he
        · have:=h2.1 z hz;omega
        · exact he
theorem rising_nil {l:List Int}:rising l=[]↔l=[]:=by
  constructor
  · intro h
    cases l with
    | nil=>rfl
    | cons x l=>exact absurd (mem_rising (l:=x :: l).2 (List.mem_cons_self)) (by rw [h];simp)
  · rintro rfl;rfl
theorem ins_le {o:List Int} {x:Int}:(ins o x).length≤o.length+1:=by
  have h0:∀ o:List Int,(ins0 o x).length=o.length+1:=by
    intro o
    induction o with
    | nil=>rfl
    | cons z o ih=>unfold ins0;split<;>simp [ih]
  unfold ins;split
  · omega
  · rw [h0];exact Nat.le_refl _
theorem foldl_len {l o:List Int}:(l.foldl ins o).length≤o.length+l.length:=by
  induction l generalizing o with
  | nil=>simp
  | cons x l ih=>rw [List.foldl_cons];have:=@ih (ins o x);have:=@ins_le o x;simp only [List.length_cons];omega
theorem rising_len {l:List Int}:(rising l).length≤l.length:=by have:=@foldl_len l [];unfold rising;simpa using this
theorem compact_spec {d:Array Int} (hs:∀ i j,i≤j→j < d.size→d[i]!≤d[j]!):∀ m,m≤d.size→Up (Go.Lib.compactUpTo d m)∧∀ y,y∈Go.Lib.compactUpTo d m↔∃ j,j < m∧d[j]! = y:=by
  intro m
  induction m with
  | zero=>intro _;refine ⟨by simp [Go.Lib.compactUpTo],fun y=>by simp [Go.Lib.compactUpTo]⟩
  | succ m ih =>
    intro hm
    obtain ⟨h1,h2⟩:=ih (by omega)
    rw [Go.Lib.compactUpTo_succ]
    by_cases hk:Go.Lib.keeps d m=true
    · rw [if_pos hk]
      refine ⟨List.pairwise_append.2 ⟨h1,by simp,fun a ha b hb=>?_⟩,fun y=>?_⟩
      · obtain ⟨j,hj,rfl⟩:=(h2 a).1 ha
        rw [List.mem_singleton.1 hb]
        simp only [Go.Lib.keeps,decide_eq_true_eq] at hk
        rcases hk with hk|hk
        · omega
        · have:=hs j (m-1) (by omega) (by omega)
          have:=hs (m-1) m (by omega) (by omega)
          omega
      · rw [List.mem_append,h2,List.mem_singleton]
        constructor
        · rintro (⟨j,hj,rfl⟩|rfl)
          · exact ⟨j,by omega,rfl⟩
          · exact ⟨m,by omega,rfl⟩
        · rintro ⟨j,hj,rfl⟩
          rcases Nat.lt_or_ge j m with h|h
          · exact .inl ⟨j,h,rfl⟩
          · exact .inr (by rw [show j=m from by omega])
    · rw [if_neg hk,List.append_nil]
      refine ⟨h1,fun y=>?_⟩
      rw [h2]
      constructor
      · rintro ⟨j,hj,rfl⟩;exact ⟨j,by omega,rfl⟩
      · rintro ⟨j,hj,rfl⟩
        rcases Nat.lt_or_ge j m with h|h
        · exact ⟨j,h,rfl⟩
        · have hjm:j=m:=by omega
          subst hjm
          simp only [Go.Lib.keeps,decide_eq_true_eq,not_or,Classical.not_not] at hk
          exact ⟨j-1,by omega,hk.2.symm⟩
theorem compact_sort (l:List Int):Go.Lib.compact (l.mergeSort fun x y=>decide (x≤y))=rising l:=by
  have hp:(l.mergeSort fun x y=>decide (x≤y)).Pairwise fun x y=>decide (x≤y)=true:=List.pairwise_mergeSort (fun a b c h1 h2=>by simp at *;omega) (fun a b=>by simp;omega) l
  have hs:∀ i j,i≤j→j < (l.mergeSort fun x y=>decide (x≤y)).toArray.size→(l.mergeSort fun x y=>decide (x≤y)).toArray[i]!≤(l.mergeSort fun x y=>decide (x≤y)).toArray[j]!:=by
    intro i j hij hj
    rw [getElem!_pos _ i (by omega),getElem!_pos _ j hj]
    simp only [List.getElem_toArray]
    rcases Nat.lt_or_ge i j with h|h
    · have:=List.pairwise_iff_getElem.1 hp i j (by simpa using (by omega:i < (l.mergeSort fun x y=>decide (x≤y)).toArray.size)) (by simpa using hj) h
      simpa using this
    · have:i=j:=by omega
      subst this;exact Int.le_refl _
  obtain ⟨h1,h2⟩:=compact_spec hs _ (Nat.le_refl _)
  refine up_ext (by simpa [Go.Lib.compact] using h1) (rising_up l) fun x=>?_
  rw [mem_rising,←(List.mergeSort_perm l fun x y=>decide (x≤y)).mem_iff]
  have h3:=h2 x
  simp only [Go.Lib.compact,List.size_toArray] at h3 ⊢
  rw [h3]
  constructor
  · rintro ⟨j,hj,rfl⟩
    rw [getElem!_pos _ j (by simpa using hj)]
    simp
  · intro h
    obtain ⟨j,hj,rfl⟩:=List.mem_iff_getElem.1 h
    exact ⟨j,hj,by rw [getElem!_pos _ j (by simpa using hj)];simp⟩
theorem idx_del {o:List Int} {c:Int} {k:Nat} (h:Up o) (hc:o[k]?=some c):o.take k++o.drop (k+1)=o.filter fun x=>decide (x≠c):=by
  induction o generalizing k with
  | nil=>simp at hc
  | cons z o ih =>
    have hz:=List.pairwise_cons.1 h
    cases k with
    | zero =>
      simp at hc;subst hc
      have:o.filter (fun x=>decide (x≠z))=o:=List.filter_eq_self.2 fun x hx=>by have:=hz.1 x hx;simp;omega
      simp only [ne_eq,decide_not] at this
      simp [this]
    | succ k =>
      simp at hc
      have hm:c∈o:=List.mem_of_getElem? hc
      have hne:z≠c:=by have:=hz.1 c hm;omega
      have:=ih hz.2 hc
      simp only [List.take_succ_cons,List.drop_succ_cons,List.cons_append,List.filter_cons]
      rw [if_pos (by simp [hne]),this]
end Go.LK.Jb
namespace Go.LK
structure Pr where
  call:Int
  job:Int
structure Ws where
  b:Nat
  o:Nat
  pm:List (Int×Int)
  om:List (Int×(Nat×List (Int×Int)))
def vO (v:Nat×List (Int×Int)):Value:=.map (some v.1)
def inA (p:Int×(Nat×List (Int×Int))):Sp:=mi p.2.1 (Value.int .i64) p.2.2
def Ws.L (T p:Nat) (s:Ws):List Sp:=[var p [.map (some s.b),.map (some s.o)] T,mi s.b (Value.int .i64) s.pm,mi s.o vO s.om,bun (s.om.map inA)]
def wt (T p:Nat) (s:Ws):Sp:=bun (Ws.L T p s)
theorem mi_congr {α:Type} {b:Nat} {f:α→Value} {m m':List (Int×α)} (h:m.map (fun p=>(p.1,f p.2))=m'.map fun p=>(p.1,f p.2)):∀ w,(mi b f m).holds w→(mi b f m').holds w:=by
  rintro w ⟨arr,clock,h1,h2⟩
  have hk:keysI m=keysI m':=by
    have:=congrArg (List.map Prod.fst) h
    simpa [keysI,List.map_map,Function.comp_def] using this
  have he:m.map (fun p=>(Value.int .i64 p.1,f p.2))=m'.map fun p=>(Value.int .i64 p.1,f p.2):=by
    have:=congrArg (List.map fun (q:Int×Value)=>(Value.int .i64 q.1,q.2)) h
    simpa [List.map_map,Function.comp_def] using this
  exact ⟨arr,clock,h1,⟨h2.eq.trans he,hk ▸ h2.keys,h2.born,h2.old⟩⟩
section
variable {α:Type} {m:List (Int×α)} {k:Int} {v u:α}
theorem getI_split (h:getI m k=some v) (hn:(keysI m).Nodup):∃ A B,m=A++(k,v) :: B∧putI m k u=A++(k,u) :: B∧delI m k=A++B:=by
  induction m with
  | nil=>simp [getI] at h
  | cons p m ih =>
    have hn':=List.nodup_cons.1 (keysI_cons ▸ hn:(p.1 :: keysI m).Nodup)
    simp only [getI] at h
    by_cases hp:p.1=k
    · rw [if_pos hp] at h
      cases h
      refine ⟨[],m,by simp [←hp],by simp [putI,hp],?_⟩
      have:delI m k=m:=del_none (hp ▸ hn'.1)
      unfold delI at this ⊢
      rw [List.filter_cons,if_neg (by simp [hp]),this];rfl
    · rw [if_neg hp] at h
      obtain ⟨A,B,h1,h2,h3⟩:=ih h hn'.2
      refine ⟨p :: A,B,by rw [h1];rfl,by simp [putI,hp,h2],?_⟩
      unfold delI at h3 ⊢
      rw [List.filter_cons,if_pos (by simp [hp]),h3];rfl
theorem putI_new (h:getI m k=none):putI m k u=m++[(k,u)]:=by
  induction m with
  | nil=>rfl
  | cons p m ih =>
    simp only [getI] at h
    by_cases hp:p.1=k
    · rw [if_pos hp] at h;cases h
    · rw [if_neg hp] at h
      simp [putI,hp,ih h]
end
end Go.LK
namespace Go.LK.Wt
open Go Go.LK
def jobOf:List Pr→Int→Option Int
  | [],_=>none
  | p :: l,c=>if p.call=c then some p.job else jobOf l c
def without (l:List Pr) (c:Int):List Pr:=l.filter fun p=>decide (p.call≠c)
def ofJ (l:List Pr) (j:Int):List Int:=(l.filter fun p=>decide (p.job=j)).map Pr.call
def drop (l:List Pr) (j:Int):List Pr:=l.filter fun p=>decide (p.job≠j)
def ins:List Pr→Int→Int→List Pr
  | [],c,j=>[⟨c,j⟩]
  | p :: l,c,j=>if p.call < c then p :: ins l c j else ⟨c,j⟩ :: p :: l
def add (l:List Pr) (c j:Int):List Pr:=if (jobOf l c).isSome then l else ins l c j
def calls (l:List Pr):List Int:=l.map Pr.call
section
variable {l:List Pr} {c c' j j':Int}
theorem calls_cons {p:Pr}:calls (p :: l)=p.call :: calls l:=rfl
theorem jobOf_mem:(∃ j,jobOf l c=some j)↔c∈calls l:=by
  induction l with
  | nil=>simp [jobOf,calls]
  | cons p l ih =>
    rw [calls_cons,List.mem_cons];simp only [jobOf]
    by_cases h:p.call=c
    · simp [h]
    · rw [if_neg h,ih]
      constructor
      · exact .inr
      · rintro (h1|h1)
        · exact absurd h1.symm h
        · exact h1
theorem jobOf_none:jobOf l c=none↔c∉calls l:=by
  rw [←jobOf_mem];cases jobOf l c<;>simp
theorem jobOf_without:jobOf (without l c) c'=if c=c' then none else jobOf l c':=by
  induction l with
  | nil=>simp [without,jobOf]
  | cons p l ih =>
    unfold without at ih ⊢
    rw [List.filter_cons]
    by_cases h:p.call=c
    · rw [if_neg (by simp [h]),ih];simp only [jobOf]
      by_cases h2:c=c'
      · simp [h2]
      · have:¬p.call=c':=fun e=>h2 (h.symm.trans e)
        simp [h2,this]
    · rw [if_pos (by simp [h])];simp only [jobOf,ih]
      by_cases h2:c=c'
      · subst h2;simp [h]
      · simp [h2]
theorem jobOf_ins (hn:jobOf l c=none):jobOf (ins l c j) c'=if c=c' then some j else jobOf l c':=by
  induction l with
  | nil=>simp [ins,jobOf]
  | cons p l ih =>
    simp only [jobOf] at hn
    by_cases h:p.call=c
    · rw [if_pos h] at hn;cases hn
    · rw [if_neg h] at hn
      simp only [ins]
      split
      · simp only [jobOf,ih hn]
        by_cases h2:c=c'
        · subst h2;simp [h]
        · simp [h2]
      · simp only [jobOf]
theorem calls_ins:∀ x,x∈calls (ins l c j)↔x=c∨x∈calls l:=by
  induction l with
  | nil=>intro x;simp [ins,calls]
  | cons p l ih =>
    intro x
    simp only [ins]
    split
    · rw [calls_cons,calls_cons,List.mem_cons,List.mem_cons,ih]
      constructor
      · rintro (h|h|h)
        · exact .inr (.inl h)
        · exact .inl h
        · exact .inr (.inr h)
      · rintro (h|h|h)
        · exact .inr (.inl h)
        · exact .inl h
        · exact .inr (.inr h)
    · rw [calls_cons,List.mem_cons]
theorem up_ins (hu:Jb.Up (calls l)) (hn:jobOf l c=none):Jb.Up (calls (ins l c j)):=by
  induction l with
  | nil=>simp [ins,calls,Jb.Up]
  | cons p l ih =>
    have hu':=List.pairwise_cons.1 (show List.Pairwise (· < ·) (p.call :: calls l) from hu)
    simp only [jobOf] at hn
    by_cases h:p.call=c
    · rw [if_pos h] at hn;cases hn
    · rw [if_neg h] at hn
      simp only [ins]
      split
      · rename_i hlt
        refine List.pairwise_cons.2 ⟨fun x hx=>?_,ih hu'.2 hn⟩
        rcases (calls_ins x).1 hx with rfl|hx
        · exact hlt
        · exact hu'.1 x hx
      · rename_i hlt
        refine List.pairwise_cons.2 ⟨fun x hx=>?_,hu⟩
        have hcp:c < p.call:=by
          have:(⟨c,j⟩:Pr).call=c:=rfl
          omega
        rcases List.mem_cons.1 (show x∈p.call :: calls l from hx) with rfl|hx
        · exact hcp
        · exact Int.lt_trans hcp (hu'.1 x hx)
theorem up_filter {f:Pr→Bool} (hu:Jb.Up (calls l)):Jb.Up (calls (l.filter f)):=List.Pairwise.sublist (List.Sublist.map _ List.filter_sublist) hu
theorem mem_ofJ (hu:Jb.Up (calls l)):c∈ofJ l j↔jobOf l c=some j:=by
  induction l with
  | nil=>simp [ofJ,jobOf]
  | cons p l ih =>
    have hu':=List.pairwise_cons.1 (show List.Pairwise (· < ·) (p.call :: calls l) from hu)
    have h0:ofJ (p :: l) j=if p.job=j then p.call :: ofJ l j else ofJ l j:=by
      unfold ofJ;rw [List.filter_cons];by_cases h:p.job=j<;>simp [h]
    rw [h0];simp only [jobOf]
    by_cases h:p.call=c
    · rw [if_pos h]
      have hno:c∉calls l:=fun hc=>by have:=hu'.1 c hc;omega
      have hno2:c∉ofJ l j:=fun hc=>by
        obtain ⟨q,hq,he⟩:=List.mem_map.1 hc
        exact hno (List.mem_map.2 ⟨q,(List.mem_filter.1 hq).1,he⟩)
      by_cases hj:p.job=j
      · simp [hj,h]
      · simp [hj,hno2]
    · rw [if_neg h,←ih hu'.2]
      have h':¬c=p.call:=fun e=>h e.symm
      by_cases hj:p.job=j
      · simp [hj,h']
      · simp [hj]
theorem up_ofJ (hu:Jb.Up (calls l)):Jb.Up (ofJ l j):=up_filter hu
structure Rep (x:List Pr) (s:Ws):Prop where
  up:Jb.Up (calls x)
  pn:(keysI s.pm).Nodup
  on:(keysI s.om).Nodup
  by_:∀ c,getI s.pm c=jobOf x c
  ofN:∀ j,getI s.om j=none→∀ c,jobOf x c≠some j
  ofS:∀ j v,getI s.om j=some v→(keysI v.2).Nodup∧v.2≠[]∧∀ c,c∈keysI v.2↔jobOf x c=some j
theorem Rep.new {b o:Nat}:Rep [] ⟨b,o,[],[]⟩:=⟨by simp [calls,Jb.Up],by simp [keysI],by simp [keysI],fun _=>rfl,fun _ _ _=>by simp [jobOf],fun j v h=>by simp [getI] at h⟩
variable {x:List Pr} {s:Ws} {v:Nat×List (Int×Int)}
theorem Rep.keys (h:Rep x s) (hv:getI s.om j=some v):Jb.rising (keysI v.2)=ofJ x j:=by
  obtain ⟨_,_,h3⟩:=h.ofS j v hv
  exact Jb.up_ext (Jb.rising_up _) (up_ofJ h.up) fun c=>by rw [Jb.mem_rising,h3,mem_ofJ h.up]
theorem Rep.noJob (h:Rep x s) (hv:getI s.om j=none):ofJ x j=[]:=List.eq_nil_iff_forall_not_mem.2 fun c hc=>h.ofN j hv c ((mem_ofJ h.up).1 hc)
theorem Rep.hasJob (h:Rep x s) (hc:jobOf x c=some j):∃ v,getI s.om j=some v∧c∈keysI v.2:=by
  cases hv:getI s.om j with
  | none=>exact absurd hc (h.ofN j hv c)
  | some v=>exact ⟨v,rfl,((h.ofS j v hv).2.2 c).2 hc⟩
theorem mem_keys_put {α:Type} {m:List (Int×α)} {k k':Int} {u:α}:k'∈keysI (putI m k u)↔k'=k∨k'∈keysI m:=by
  rw [←getI_mem,getI_putI,←getI_mem]
  by_cases h:k=k'
  · simp [h]
  · have:¬k'=k:=fun e=>h e.symm
    simp [h,this]
theorem mem_keys_del {α:Type} {m:List (Int×α)} {k k':Int}:k'∈keysI (delI m k)↔k'≠k∧k'∈keysI m:=by
  rw [←getI_mem,getI_delI,←getI_mem]
  by_cases h:k=k'
  · simp [h]
  · have:¬k'=k:=fun e=>h e.symm
    simp [h,this]
theorem put_ne {α:Type} {m:List (Int×α)} {k:Int} {u:α}:putI m k u≠[]:=fun h=>by
  have:k∈keysI (putI m k u):=mem_keys_put.2 (.inl rfl)
  rw [h] at this;simp [keysI] at this
theorem Rep.addHas (h:Rep x s) (hn:jobOf x c=none) (hv:getI s.om j=some v):Rep (ins x c j) { s with pm:=putI s.pm c j,om:=putI s.om j (v.1,putI v.2 c j) }:=by
  refine ⟨up_ins h.up hn,nodup_put h.pn,nodup_put h.on,fun c'=>?_,fun j' hj' c'=>?_,fun j' u hu=>?_⟩
  · rw [getI_putI,jobOf_ins hn,h.by_]
  · rw [getI_putI] at hj'
    by_cases he:j=j'
    · rw [if_pos he] at hj';cases hj'
    · rw [if_neg he] at hj'
      rw [jobOf_ins hn]
      split
      · intro e;cases e;exact he rfl
      · exact h.ofN j' hj' c'
  · rw [getI_putI] at hu
    by_cases he:j=j'
    · subst he
      rw [if_pos rfl] at hu;cases hu
      obtain ⟨h1,h2,h3⟩:=h.ofS j v hv
      refine ⟨nodup_put h1,put_ne,fun c'=>?_⟩
      rw [mem_keys_put,jobOf_ins hn,h3]
      by_cases hc:c=c'
      · simp [hc]
      · have:¬c'=c:=fun e=>hc e.symm
        simp [hc,this]
    · rw [if_neg he] at hu
      obtain ⟨h1,h2,h3⟩:=h.ofS j' u hu
      refine ⟨h1,h2,fun c'=>?_⟩
      rw [h3,jobOf_ins hn]
      by_cases hc:c=c'
      · subst hc
        simp [hn,he]
      · simp [hc]
theorem Rep.addNew {b:Nat} (h:Rep x s) (hn:jobOf x c=none) (hv:getI s.om j=none):Rep (ins x c j) { s with pm:=putI s.pm c j,om:=putI s.om j (b,putI [] c j) }:=by
  refine ⟨up_ins h.up hn,nodup_put h.pn,nodup_put h.on,fun c'=>?_,fun j' hj' c'=>?_,fun j' u hu=>?_⟩
  · rw [getI_putI,jobOf_ins hn,h.by_]
  · rw [getI_putI] at hj'
    by_cases he:j=j'
    · rw [if_pos he] at hj';cases hj'
    · rw [if_neg he] at hj'
      rw [jobOf_ins hn]
      split
      · intro e;cases e;exact he rfl
      · exact h.ofN j' hj' c'
  · rw [getI_putI] at hu
    by_cases he:j=j'
    · subst he
      rw [if_pos rfl] at hu;cases hu
      refine ⟨by simp [putI,keysI],put_ne,fun c'=>?_⟩
      rw [mem_keys_put,jobOf_ins hn]
      have h0:=h.ofN j hv c'
      by_cases hc:c=c'
      · simp [hc]
      · have:¬c'=c:=fun e=>hc e.symm
        simp [hc,this,keysI,h0]
    · rw [if_neg he] at hu
      obtain ⟨h1,h2,h3⟩:=h.ofS j' u hu
      refine ⟨h1,h2,fun c'=>?_⟩
      rw [h3,jobOf_ins hn]
      by_cases hc:c=c'
      · subst hc
        simp [hn,he]
      · simp [hc]
theorem Rep.takeMore (h:Rep x s) (hc:jobOf x c=some j) (hv:getI s.om j=some v) (hne:delI v.2 c≠[]):Rep (without x c) { s with pm:=delI s.pm c,om:=putI s.om j (v.1,delI v.2 c) }:=by
  refine ⟨up_filter h.up,nodup_del h.pn,nodup_put h.on,fun c'=>?_,fun j' hj' c'=>?_,fun j' u hu=>?_⟩
  · rw [getI_delI,jobOf_without,h.by_]
  · rw [getI_putI] at hj'
    by_cases he:j=j'
    · rw [if_pos he] at hj';cases hj'
    · rw [if_neg he] at hj'
      rw [jobOf_without]
      split
      · simp
      · exact h.ofN j' hj' c'
  · rw [getI_putI] at hu
    by_cases he:j=j'
    · subst he
      rw [if_pos rfl] at hu;cases hu
      obtain ⟨h1,h2,h3⟩:=h.ofS j v hv
      refine ⟨nodup_del h1,hne,fun c'=>?_⟩
      rw [mem_keys_del,jobOf_without,h3]
      by_cases hcc:c=c'
      · simp [hcc]
      · have:¬c'=c:=fun e=>hcc e.symm
        simp [hcc,this]
    · rw [if_neg he] at hu
      obtain ⟨h1,h2,h3⟩:=h.ofS j' u hu
      refine ⟨h1,h2,fun c'=>?_⟩
      rw [h3,jobOf_without]
      by_cases hcc:c=c'
      · subst hcc
        simp [hc,he]
      · simp [hcc]
theorem Rep.takeLast (h:Rep x s) (hc:jobOf x c=some j) (hv:getI s.om j=some v) (hne:delI v.2 c=[]):Rep (without x c) { s with pm:=delI s.pm c,om:=delI s.om j }:=by
  have h3:=(h.ofS j v hv).2.2
  have hall:∀ c',jobOf x c'=some j→c'=c:=fun c' hc'=>by
    rcases Decidable.em (c'=c) with he|he
    · exact he
    · have:c'∈keysI (delI v.2 c):=mem_keys_del.2 ⟨he,(h3 c').2 hc'⟩
      rw [hne] at this;simp [keysI] at this
  refine ⟨up_filter h.up,nodup_del h.pn,nodup_del h.on,fun c'=>?_,fun j' hj' c'=>?_,fun j' u hu=>?_⟩
  · rw [getI_delI,jobOf_without,h.by_]
  · rw [getI_delI] at hj'
    rw [jobOf_without]
    by_cases hcc:c=c'
    · simp [hcc]
    · rw [if_neg hcc]
      by_cases he:j=j'
      · subst he
        exact fun hx=>hcc (hall c' hx).symm
      · rw [if_neg he] at hj'
        exact h.ofN j' hj' c'
  · rw [getI_delI] at hu
    by_cases he:j=j'
    · rw [if_pos he] at hu;cases hu
    · rw [if_neg he] at hu
      obtain ⟨h1,h2,h3⟩:=h.ofS j' u hu
      refine ⟨h1,h2,fun c'=>?_⟩
      rw [h3,jobOf_without]
      by_cases hcc:c=c'
      · subst hcc
        simp [hc,he]
      · simp [hcc]
end
end Go.LK.Wt
namespace Go.LK
open Go Wt
section
variable {T p:Nat} {s:Ws} {j:Int} {v:Nat×List (Int×Int)}
theorem wt_at {A:Sp} (hA:A∈Ws.L T p s):∃ B∈[wt T p s],∀ w,B.holds w→A.holds w∧∀ k∈A.foot,k∈B.foot:=⟨_,List.mem_singleton_self _,bun_at hA⟩
theorem wt_in (hv:(j,v)∈s.om):∃ B∈[wt T p s],∀ w,B.holds w→(mi v.1 (Value.int .i64) v.2).holds w∧∀ k∈(mi v.1 (Value.int .i64) v.2).foot,k∈B.foot:=by
  refine ⟨_,List.mem_singleton_self _,fun w hw=>?_⟩
  obtain ⟨h1,h2⟩:=bun_at (A:=bun (s.om.map inA)) (As:=Ws.L T p s) (by simp [Ws.L]) w hw
  obtain ⟨h3,h4⟩:=bun_at (A:=inA (j,v)) (List.mem_map.2 ⟨_,hv,rfl⟩) w h1
  exact ⟨h3,fun k hk=>h2 k (h4 k hk)⟩
theorem wt_shut {b o:Nat} {pm:List (Int×Int)} {om om':List (Int×(Nat×List (Int×Int)))} (h:om.map (fun q=>(q.1,vO q.2))=om'.map fun q=>(q.1,vO q.2)) :
    Re [bun (om'.map inA),var p [.map (some b),.map (some o)] T,mi b (Value.int .i64) pm,mi o vO om] [wt T p ⟨b,o,pm,om'⟩] :=
  (Re.sel [3,0,1,2] (by decide) rfl).trans ((Re.imp (B:=mi o vO om') (mi_congr h) rfl).trans ((Re.sel [2,3,0,1] (by decide) rfl).trans Re.bunIn1))
theorem wt_lay:Re [wt T p s] [bun (s.om.map inA),var p [.map (some s.b),.map (some s.o)] T,mi s.b (Value.int .i64) s.pm,mi s.o vO s.om]:=Re.bunOut1.trans (Re.sel [3,0,1,2] (by decide) rfl)
theorem wt_open (hn:(keysI s.om).Nodup) (hv:getI s.om j=some v):∃ R:List Sp,Re [wt T p s] [mi v.1 (Value.int .i64) v.2,bun R,var p [.map (some s.b),.map (some s.o)] T,mi s.b (Value.int .i64) s.pm,mi s.o vO s.om] ∧
    (∀ u pm',Re [mi v.1 (Value.int .i64) u,bun R,var p [.map (some s.b),.map (some s.o)] T,mi s.b (Value.int .i64) pm',mi s.o vO s.om] [wt T p ⟨s.b,s.o,pm',putI s.om j (v.1,u)⟩]) ∧
    ∀ pm',Re [bun R,var p [.map (some s.b),.map (some s.o)] T,mi s.b (Value.int .i64) pm',mi s.o vO (delI s.om j)] [wt T p ⟨s.b,s.o,pm',delI s.om j⟩]:=by
  obtain ⟨A,B,h1,_,h3⟩:=getI_split (u:=v) hv hn
  refine ⟨A.map inA++B.map inA,?_,fun u pm'=>?_,fun pm'=>?_⟩
  · refine wt_lay.trans (Re.out (As1:=A.map inA) (As2:=B.map inA) (B:=inA (j,v)) ?_)
    conv=>lhs;rw [h1]
    simp
  · obtain ⟨A',B',h1',h2',h3'⟩:=getI_split (u:=(v.1,u)) hv hn
    have hAB:A'=A∧B'=B:=by
      have hne:∀ (A A' B B':List (Int×(Nat×List (Int×Int)))),(keysI (A++(j,v) :: B)).Nodup→A++(j,v) :: B=A'++(j,v) :: B'→A'=A∧B'=B:=by
        intro A
        induction A with
        | nil =>
          intro A' B B' hnd he
          cases A' with
          | nil=>simp at he;exact ⟨rfl,he.symm⟩
          | cons q A' =>
            simp only [List.nil_append,List.cons_append,List.cons.injEq] at he
            obtain ⟨hq,he⟩:=he
            simp only [List.nil_append,keysI,List.map_cons,List.nodup_cons] at hnd
            exfalso;apply hnd.1;rw [he];simp
        | cons q A ih =>
          intro A' B B' hnd he
          cases A' with
          | nil =>
            simp only [List.nil_append,List.cons_append,List.cons.injEq] at he
            obtain ⟨hq,he⟩:=he
            simp only [List.cons_append,keysI,List.map_cons,List.nodup_cons] at hnd
            exfalso;apply hnd.1;rw [hq];simp
          | cons q' A' =>
            simp only [List.cons_append,List.cons.injEq] at he
            simp only [List.cons_append,keysI,List.map_cons,List.nodup_cons] at hnd
            obtain ⟨h1,h2⟩:=ih A' B B' hnd.2 he.2
            exact ⟨by rw [h1,he.1],h2⟩
      exact hne A A' B B' (h1 ▸ hn) (h1.symm.trans h1')
    obtain ⟨rfl,rfl⟩:=hAB
    refine (Re.back (As:=(putI s.om j (v.1,u)).map inA) (As1:=A'.map inA) (As2:=B'.map inA) (B:=inA (j,(v.1,u))) (by rw [h2'];simp)).trans (wt_shut ?_)
    rw [h2']
    conv=>lhs;rw [h1]
    simp [vO]
  · have:A.map inA++B.map inA=(delI s.om j).map inA:=by rw [h3];simp
    rw [this]
    exact wt_shut rfl
theorem wt_more (hv:getI s.om j=none) (q:Nat) (u u0:List (Int×Int)) (pm':List (Int×Int)):Re [mi q (Value.int .i64) u,bun (s.om.map inA),var p [.map (some s.b),.map (some s.o)] T,mi s.b (Value.int .i64) pm',mi s.o vO (putI s.om j (q,u0))] [wt T p ⟨s.b,s.o,pm',putI s.om j (q,u)⟩]:=by
  refine (Re.into (B:=mi q (Value.int .i64) u)).trans ?_
  have:s.om.map inA++[mi q (Value.int .i64) u]=(putI s.om j (q,u)).map inA:=by rw [putI_new hv];simp [inA]
  rw [this]
  refine wt_shut ?_
  rw [putI_new hv,putI_new hv]
  simp [vO]
theorem wt_none {b o:Nat}:Re [var p [.map (some b),.map (some o)] T,mi b (Value.int .i64) [],mi o vO []] [wt T p ⟨b,o,[],[]⟩]:=Re.new.trans (wt_shut (om':=[]) rfl)
end
end Go.LK
namespace Go.LK.Wt
open Go Go.LK
theorem ofJ_len {l:List Pr} {j:Int}:(ofJ l j).length≤l.length:=by unfold ofJ;rw [List.length_map];exact List.length_filter_le _ _
def cut (x:List Pr) (l:List Int) (k:Nat):List Pr:=(l.take k).foldl without x
theorem cut_next {x:List Pr} {l:List Int} {k:Nat} {c:Int} (h:l[k]?=some c):cut x l (k+1)=without (cut x l k) c:=by
  unfold cut;rw [List.take_add_one,h,List.foldl_append];rfl
theorem foldl_without:∀ {l:List Int} {x:List Pr},l.foldl without x=x.filter fun p=>decide (p.call∉l)
  | [],x=>(List.filter_eq_self.2 fun _ _=>by simp).symm
  | c :: l,x=>by
    rw [List.foldl_cons,foldl_without,without,List.filter_filter]
    refine List.filter_congr fun p _=>?_
    by_cases h:p.call=c<;>simp [h]
theorem cut_drop {x:List Pr} {j:Int} {k:Nat} (hu:Jb.Up (calls x)) (hk:(ofJ x j).length≤k):cut x (ofJ x j) k=drop x j:=by
  unfold cut drop
  rw [List.take_of_length_le hk,foldl_without]
  refine List.filter_congr fun p hp=>?_
  have hin:p.call∈ofJ x j↔p.job=j:=by
    rw [mem_ofJ hu]
    have:jobOf x p.call=some p.job:=by
      clear hk
      induction x with
      | nil=>simp at hp
      | cons q x ih =>
        have hu':=List.pairwise_cons.1 (show List.Pairwise (· < ·) (q.call :: calls x) from hu)
        simp only [jobOf]
        rcases List.mem_cons.1 hp with rfl|hp
        · simp
        · have:=hu'.1 p.call (List.mem_map.2 ⟨p,hp,rfl⟩)
          rw [if_neg (by omega)]
          exact ih hu'.2 hp
    rw [this];simp
  simp [hin]
end Go.LK.Wt
namespace Go.LK.Wt
open Go Go.LK
section
variable {l x:List Pr} {c j o:Int} {k:Nat} {e:Pr}
theorem ins_len:(ins l c j).length=l.length+1:=by
  induction l with
  | nil=>rfl
  | cons p l ih=>simp only [ins];split<;>simp [ih]
theorem without_len:(without l c).length≤l.length:=List.length_filter_le _ _
theorem drop_len:(drop l j).length≤l.length:=List.length_filter_le _ _
end
end Go.LK.Wt
namespace Go.LK.Gr
open Go Go.LK
inductive Path (E:Nat→Nat→Bool):Nat→Nat→Prop
  | one {i j:Nat}:E i j=true→Path E i j
  | step {i k j:Nat}:Path E i k→E k j=true→Path E i j
theorem Path.first {E:Nat→Nat→Bool} {i j:Nat} (h:Path E i j):E i j=true∨∃ k,E i k=true∧Path E k j:=by
  induction h with
  | one h=>exact .inl h
  | step h h2 ih =>
    rcases ih with h3|⟨k,h3,h4⟩
    · exact .inr ⟨_,h3,.one h2⟩
    · exact .inr ⟨k,h3,.step h4 h2⟩
def e (g:List (List Int)) (i j:Nat):Bool:=decide (i < g.length)&&decide (j < g.length)&&(g.getD i []).contains (j:Int)
theorem e_lt {g:List (List Int)} {i j:Nat} (h:e g i j=true):i < g.length∧j < g.length:=by
  simp only [e,Bool.and_eq_true,decide_eq_true_eq] at h
  exact h.1
noncomputable def reachP (g:List (List Int)) (i j:Nat):Bool:=@decide (Path (e g) i j) (Classical.propDecidable _)
theorem reachP_iff {g:List (List Int)} {i j:Nat}:reachP g i j=true↔Path (e g) i j:=by
  unfold reachP;exact @decide_eq_true_iff _ (Classical.propDecidable _)
noncomputable def reachL (g:List (List Int)) (i:Nat):List Int:=((List.range g.length).filter (reachP g i)).map fun (n:Nat)=>(n:Int)
def cntT (m:List Bool):Nat:=m.countP id
theorem cntT_le (m:List Bool):cntT m≤m.length:=List.countP_le_length
theorem cntT_mono:∀ {a b:List Bool},a.length=b.length→(∀ j:Nat,a[j]?=some true→b[j]?=some true)→cntT a≤cntT b
  | [],[],_,_=>Nat.le_refl _
  | x :: a,y :: b,hl,h=>by
    have ih:=cntT_mono (a:=a) (b:=b) (by simpa using hl) fun j hj=>by simpa using h (j+1) (by simpa using hj)
    have h0:=h 0
    unfold cntT at ih ⊢
    simp only [List.countP_cons]
    cases x<;>cases y<;>simp_all<;>omega
theorem cntT_lt:∀ {a b:List Bool} {j:Nat},a.length=b.length→(∀ j:Nat,a[j]?=some true→b[j]?=some true)→a[j]?=some false→b[j]?=some true→cntT a < cntT b
  | [],[],j,_,_,h,_=>by simp at h
  | x :: a,y :: b,0,hl,h,h1,h2=>by
    have ih:=cntT_mono (a:=a) (b:=b) (by simpa using hl) fun j hj=>by simpa using h (j+1) (by simpa using hj)
    simp at h1 h2
    subst h1;subst h2
    unfold cntT at ih ⊢
    simp only [List.countP_cons]
    simp;omega
  | x :: a,y :: b,j+1,hl,h,h1,h2=>by
    have ih:=cntT_lt (a:=a) (b:=b) (j:=j) (by simpa using hl) (fun j hj=>by simpa using h (j+1) (by simpa using hj)) (by simpa using h1) (by simpa using h2)
    have h0:=h 0
    unfold cntT at ih ⊢
    simp only [List.countP_cons]
    cases x<;>cases y<;>simp_all<;>omega
abbrev T (m:List Bool) (j:Nat):Prop:=m[j]?=some true
structure RI (g:List (List Int)) (f:Nat) (bef now:List Bool) (t k:Nat):Prop where
  len0:bef.length=g.length
  len:now.length=g.length
  sub:∀ j,T bef j→T now j
  sound:∀ j,T now j→Path (e g) f j
  done:∀ j,j < t→∀ i,e g i j=true→(i=f∨T bef i)→T now j
  here:∀ i,i < k→e g i t=true→(i=f∨T bef i)→T now t
def Closed (g:List (List Int)) (f:Nat) (m:List Bool):Prop:=∀ i j,e g i j=true→(i=f∨T m i)→T m j
structure RO (g:List (List Int)) (f:Nat) (m:List Bool) (r:Nat):Prop where
  len:m.length=g.length
  sound:∀ j,T m j→Path (e g) f j
  fin:Closed g f m∨r≤cntT m
section
variable {g:List (List Int)} {f t k r:Nat} {bef now m:List Bool}
theorem RI.row (h:RI g f bef now t g.length):RI g f bef now (t+1) 0:=⟨h.len0,h.len,h.sub,h.sound,fun j hj i he hi=>by
  rcases Nat.lt_or_ge j t with h1|h1
  · exact h.done j h1 i he hi
  · have:j=t:=by omega
    subst this
    exact h.here i (e_lt he).1 he hi,fun i hi=>absurd hi (Nat.not_lt_zero _)⟩
theorem RO.last (h:RO g f m g.length) (j:Nat):T m j↔Path (e g) f j:=by
  refine ⟨h.sound j,fun hp=>?_⟩
  have hc:Closed g f m:=by
    rcases h.fin with h1|h1
    · exact h1
    · intro i j he _
      have hjl:j < m.length:=by rw [h.len];exact (e_lt he).2
      by_cases hj:T m j
      · exact hj
      · exfalso
        have hf:m[j]?=some false:=by
          rw [List.getElem?_eq_getElem hjl]
          unfold T at hj
          rw [List.getElem?_eq_getElem hjl] at hj
          cases hb:m[j]<;>simp_all
        have h2:=cntT_lt (a:=m) (b:=List.replicate m.length true) (j:=j) (by simp) (fun i hi=>by
          have:i < m.length:=(List.getElem?_eq_some_iff.1 hi).1
          rw [List.getElem?_replicate,if_pos this]) hf (by rw [List.getElem?_replicate,if_pos hjl])
        have h3:=cntT_le (List.replicate m.length true)
        rw [List.length_replicate] at h3
        have h4:=h.len
        omega
  induction hp with
  | one he=>exact hc _ _ he (.inl rfl)
  | step _ he ih=>exact hc _ _ he (.inr ih)
def marked (m:List Bool) (k:Nat):List Int:=((List.range k).filter fun j=>m.getD j false).map fun (n:Nat)=>(n:Int)
theorem RO.row (h:RO g f m g.length):marked m g.length=reachL g f:=by
  unfold marked reachL
  congr 1
  refine List.filter_congr fun j hj=>?_
  have h1:=h.last j
  rw [Bool.eq_iff_iff,reachP_iff,←h1]
  unfold T
  rw [List.getD_eq_getElem?_getD]
  cases hm:m[j]? with
  | none=>simp
  | some b=>simp
end
def cnt (g:List (List Int)) (o:List Nat) (n:Nat):Nat:=((List.range g.length).filter fun c=>e g c n&&!o.contains c).length
def pick (g:List (List Int)) (o:List Nat):Option Nat:=(List.range g.length).find? fun n=>!o.contains n&&cnt g o n == 0
def ordN (g:List (List Int)):Nat→Option (List Nat)
  | 0=>some []
  | k+1=>(ordN g k).bind fun o=>(pick g o).map fun n=>o++[n]
section
variable {g:List (List Int)} {o:List Nat} {k n:Nat}
theorem cnt_zero:cnt g o n=0↔∀ c,e g c n=true→c∈o:=by
  unfold cnt
  rw [List.length_eq_zero_iff,List.filter_eq_nil_iff]
  constructor
  · intro h c hc
    have:=h c (List.mem_range.2 (e_lt hc).1)
    simpa [hc] using this
  · intro h c _ hc
    simp only [Bool.and_eq_true,Bool.not_eq_true',List.contains_eq_mem,decide_eq_false_iff_not] at hc
    exact hc.2 (h c hc.1)
theorem pick_some (h:pick g o=some n):n < g.length∧n∉o∧∀ c,e g c n=true→c∈o:=by
  have h1:=List.find?_some h
  have h2:=List.mem_of_find?_eq_some h
  simp only [Bool.and_eq_true,Bool.not_eq_true',List.contains_eq_mem,decide_eq_false_iff_not,beq_iff_eq] at h1
  exact ⟨List.mem_range.1 h2,h1.1,cnt_zero.1 h1.2⟩
theorem pick_at (hn:n < g.length) (ho:n∉o) (h0:cnt g o n=0) (hl:∀ j,j < n→j∈o∨cnt g o j≠0):pick g o=some n:=by
  unfold pick
  rw [List.find?_range_eq_some]
  refine ⟨by simp [ho,h0],by simpa using hn,fun j hj=>?_⟩
  rcases hl j hj with h|h
  · simp [h]
  · simp [h]
theorem pick_stop (hl:∀ j,j < g.length→j∈o∨cnt g o j≠0):pick g o=none:=by
  unfold pick
  rw [List.find?_eq_none]
  intro j hj
  rcases hl j (List.mem_range.1 hj) with h|h
  · simp [h]
  · simp [h]
theorem ord_step (h:ordN g (k+1)=some o):∃ o' n,ordN g k=some o'∧pick g o'=some n∧o=o'++[n]:=by
  simp only [ordN,Option.bind_eq_some_iff,Option.map_eq_some_iff] at h
  obtain ⟨o',h1,n,h2,rfl⟩:=h
  exact ⟨o',n,h1,h2,rfl⟩
theorem ord_none (h:ordN g k=none):∀ m,k≤m→ordN g m=none:=by
  intro m
  induction m with
  | zero => intro hm; have : k = 0 := by omega
            subst this;exact h
  | succ m ih =>
    intro hm
    rcases Nat.lt_or_ge m k with h1|h1
    · have:k=m+1:=by omega
      subst this;exact h
    · simp [ordN,ih h1]
theorem ord_len:∀ {k:Nat} {o:List Nat},ordN g k=some o→o.length=k
  | 0,o,h=>by cases h;rfl
  | k+1,o,h=>by
    obtain ⟨o',n,h1,h2,rfl⟩:=ord_step h
    simp [ord_len h1]
theorem ord_closed:∀ {k:Nat} {o:List Nat},ordN g k=some o→∀ n∈o,∀ c,e g c n=true→c∈o
  | 0,o,h=>by cases h;simp
  | k+1,o,h=>by
    obtain ⟨o',p,h1,h2,rfl⟩:=ord_step h
    intro n hn c hc
    rcases List.mem_append.1 hn with hn|hn
    · exact List.mem_append.2 (.inl (ord_closed h1 n hn c hc))
    · rw [List.mem_singleton.1 hn] at hc
      exact List.mem_append.2 (.inl ((pick_some h2).2.2 c hc))
def out (g:List (List Int)) (o:List Nat):List Nat:=(List.range g.length).filter fun n=>!o.contains n
end
noncomputable def loops (g:List (List Int)):Int:=@ite _ (∃ o,ordN g g.length=some o) (Classical.propDecidable _) 0 11
theorem loops_yes {g:List (List Int)} {o:List Nat} (h:ordN g g.length=some o):loops g=0:=by unfold loops;rw [if_pos ⟨o,h⟩]
theorem loops_no {g:List (List Int)} (h:ordN g g.length=none):loops g=11:=by
  unfold loops;rw [if_neg];rintro ⟨o,ho⟩;rw [h] at ho;cases ho
end Go.LK.Gr
namespace Go.LK
structure An where
  call:Int
  code:Int
end Go.LK
namespace Go.LK.Jb
open Go Go.LK
def IdxP (l:List Int) (x k:Int):Prop:=(k=-1∧x∉l)∨∃ n:Nat,k=n∧l[n]?=some x∧∀ j,j < n→∀ y,l[j]?=some y→y≠x
theorem idx_no {l:List Int} {x:Int} {k:Nat} (h:∀ j,j < k→∀ y,l[j]?=some y→y≠x) (hk:¬k < l.length):IdxP l x (-1):=.inl ⟨rfl,fun hm=>by
  obtain ⟨j,hj⟩:=List.mem_iff_getElem?.1 hm
  have:=(List.getElem?_eq_some_iff.1 hj).1
  exact h j (by omega) x hj rfl⟩
theorem idx_yes {l:List Int} {x y:Int} {k:Nat} (h:∀ j,j < k→∀ y,l[j]?=some y→y≠x) (hy:l[k]?=some y) (he:x=y):IdxP l x (k:Int):=.inr ⟨k,rfl,by rw [hy,he],h⟩
theorem idx_next {l:List Int} {x y:Int} {k:Nat} (h:∀ j,j < k→∀ y,l[j]?=some y→y≠x) (hy:l[k]?=some y) (he:¬x=y):∀ j,j < k+1→∀ y,l[j]?=some y→y≠x:=fun j hj z hz=>by
  rcases Nat.lt_or_ge j k with h1|h1
  · exact h j h1 z hz
  · have:j=k:=by omega
    subst this
    rw [hy] at hz;cases hz
    exact fun h=>he h.symm
theorem idx_mem {l:List Int} {x k:Int} (h:IdxP l x k):0≤k↔x∈l:=by
  rcases h with ⟨rfl,h⟩|⟨n,rfl,h,_⟩
  · exact ⟨fun h=>by omega,fun h2=>absurd h2 h⟩
  · exact ⟨fun _=>List.mem_of_getElem? h,fun _=>by omega⟩
theorem idx_at {l:List Int} {x k:Int} (h:IdxP l x k) (h0:0≤k):l[k.toNat]?=some x∧k < l.length∧k.toNat+1=(k+1).toNat:=by
  rcases h with ⟨rfl,_⟩|⟨n,rfl,h,_⟩
  · omega
  · refine ⟨by simpa using h,?_,by omega⟩
    have:=(List.getElem?_eq_some_iff.1 h).1
    omega
def without (l:List Int) (c:Int):List Int:=l.filter fun x=>decide (x≠c)
theorem del_at {l:List Int} {x k:Int} (hu:Up l) (h:IdxP l x k) (h0:0≤k):l.take k.toNat++l.drop (k+1).toNat=without l x:=by
  obtain ⟨h1,_,h3⟩:=idx_at h h0
  rw [←h3];exact idx_del hu h1
theorem without_up {l:List Int} {c:Int} (h:Up l):Up (without l c):=List.Pairwise.filter _ h
theorem without_len {l:List Int} {c:Int}:(without l c).length≤l.length:=List.length_filter_le _ _
def seen (l:List An) (k:Nat) (x:Int):Bool:=(l.take k).any fun a=>decide (a.call=x)
section
variable {needs:List Int} {l:List An} {k q:Nat} {a:An} {x:Int}
end
end Go.LK.Jb
namespace Go.LK.Wd
open Go Go.LK
abbrev Bs:=List UInt8
def hd (c:UInt8):List Bs→List Bs
  | []=>[[c]]
  | h :: t=>(c :: h) :: t
def nl (c:UInt8):Bool:=decide ((c.toNat:Int)=10)
def bl (c:UInt8):Bool:=decide ((c.toNat:Int)=32) || decide ((c.toNat:Int)=9)
def Cl (p:UInt8→Bool) (e:Int) (s:Bs) (a b:Nat):Prop:=∀ j c,a≤j→j < b→s[j]?=some c→p c=false∧¬(c.toNat:Int)=e
section
variable {p:UInt8→Bool} {e:Int} {s:Bs} {fr i:Nat} {out:List Bs} {c:UInt8}
theorem drop_at (hc:s[i]?=some c) (h:fr≤i):s.drop fr=(s.drop fr).take (i-fr)++c :: s.drop (i+1):=by
  obtain ⟨hlt,rfl⟩:=List.getElem?_eq_some_iff.1 hc
  have h1:(s.drop fr).drop (i-fr)=s.drop i:=by rw [List.drop_drop];congr 1;omega
  rw [←List.drop_eq_getElem_cons hlt,←h1,List.take_append_drop]
end
section
variable {sp:Int→Bool} {e:Int} {s:Bs} {fr i:Nat} {out:List Bs} {b:UInt8}
end
section
variable {s:Bs} {i:Nat} {out:List Bs} {w:Bs} {c:UInt8}
end
def Word (w:Bs):Prop:=w≠[]∧∀ x∈w,bl x=false∧¬(x.toNat:Int)=35
theorem Word.f {w:Bs} (h:Word w):(w == [])=false:=by simpa using h.1
end Go.LK.Wd
namespace Go.LK.Dc
open Go Go.LK
end Go.LK.Dc
namespace Go.LK.Dc
open Go Go.LK
def Sg (s:List UInt8) (fr:Nat):Prop:=(fr=1∧∃ c,s[0]?=some c∧c.toNat=45)∨(fr=0∧∀ c,s[0]?=some c→c.toNat≠45)
end Go.LK.Dc
namespace Go.LK.Wd
open Go Go.LK
def nv (name:Bs) (n:Int):Bs:=name++[61]++Lib.itoa n
end Go.LK.Wd
namespace Go.LK.Kn
open Go Go.LK Go.LK.Wd
section
variable {ws:List Bs} {k:Nat} {out:List Int} {w n:Bs}
end
def ok (l:List Int) (m:Int):Bool:=match l with
  | [a,b,c,d,e,f,g]=>decide (1≤m)&&decide (m≤128)&&decide (0≤a)&&decide (a≤b)&&decide (0≤b)&&decide (b≤10000)&&decide (1≤c)&&decide (c≤99)&&decide (1≤d)&&decide (d≤100)&&decide (0≤e)&&decide (e≤m)&&decide (1≤f)&&decide (f≤32)&&decide (1≤g)&&decide (g≤32)
  | _=>false
def check (l:List Int) (m:Int):Int:=if ok l m then 0 else 10
section
variable {a b c d e f g m:Int}
def May (a b c d e f g m:Int):Prop:=1≤m∧m≤128∧0≤a∧a≤b∧0≤b∧b≤10000∧1≤c∧c≤99∧1≤d∧d≤100∧0≤e∧e≤m∧1≤f∧f≤32∧1≤g∧g≤32
theorem ok_iff:ok [a,b,c,d,e,f,g] m=true↔May a b c d e f g m:=by
  simp only [ok,Bool.and_eq_true,decide_eq_true_eq,May]
  constructor
  · rintro ⟨⟨⟨⟨⟨⟨⟨⟨⟨⟨⟨⟨⟨⟨⟨h1,h2⟩,h3⟩,h4⟩,h5⟩,h6⟩,h7⟩,h8⟩,h9⟩,h10⟩,h11⟩,h12⟩,h13⟩,h14⟩,h15⟩,h16⟩
    exact ⟨h1,h2,h3,h4,h5,h6,h7,h8,h9,h10,h11,h12,h13,h14,h15,h16⟩
  · rintro ⟨h1,h2,h3,h4,h5,h6,h7,h8,h9,h10,h11,h12,h13,h14,h15,h16⟩
    exact ⟨⟨⟨⟨⟨⟨⟨⟨⟨⟨⟨⟨⟨⟨⟨h1,h2⟩,h3⟩,h4⟩,h5⟩,h6⟩,h7⟩,h8⟩,h9⟩,h10⟩,h11⟩,h12⟩,h13⟩,h14⟩,h15⟩,h16⟩
theorem check_yes (h:1≤m∧m≤128∧0≤a∧a≤b∧0≤b∧b≤10000∧1≤c∧c≤99∧1≤d∧d≤100∧0≤e∧e≤m∧1≤f∧f≤32∧1≤g∧g≤32):check [a,b,c,d,e,f,g] m=0:=by
  rw [check,if_pos (ok_iff.2 h)]
theorem check_no (h:¬(1≤m∧m≤128∧0≤a∧a≤b∧0≤b∧b≤10000∧1≤c∧c≤99∧1≤d∧d≤100∧0≤e∧e≤m∧1≤f∧f≤32∧1≤g∧g≤32)):check [a,b,c,d,e,f,g] m=10:=by
  rw [check,if_neg fun hc=>h (ok_iff.1 hc)]
end
theorem list7 {l:List Int} {a b c d e f g:Int} (h:l.length=7) (h0:l[0]?=some a) (h1:l[1]?=some b) (h2:l[2]?=some c) (h3:l[3]?=some d) (h4:l[4]?=some e) (h5:l[5]?=some f) (h6:l[6]?=some g):l=[a,b,c,d,e,f,g]:=by
  match l,h with
  | [_,_,_,_,_,_,_],_=>simp at h0 h1 h2 h3 h4 h5 h6;simp [h0,h1,h2,h3,h4,h5,h6]
end Go.LK.Kn
namespace Go.LK
open Go
structure Cl where
  to:Int
  tier:Int
  weight:Int
  most:Int
def Cl.cells (e:Cl):List Value:=[.int .i64 e.to,.int .i64 e.tier,.int .i64 e.weight,.int .i64 e.most]
theorem Cl.one {l:List Cl}:∀ a∈l,(Cl.cells a).all Value.oneCell'=true:=fun _ _=>rfl
end Go.LK
namespace Go.LK.Cf
open Go Go.LK Go.LK.Wd
def rowW (word:Bs) (ns:List Bs) (l:List Int):List Bs:=word :: (ns.zip l).map fun p=>nv p.1 p.2
def row (word:Bs) (ns:List Bs) (l:List Int):Bs:=Lib.join (rowW word ns l) [32]
section
variable {word:Bs} {ns:List Bs} {l:List Int} {k:Nat} {n:Bs} {x:Int}
end
section
variable {ws ns:List Bs} {k:Nat} {out:List Int} {w n:Bs}
end
section
variable {line word:Bs} {ns:List Bs} {k:Nat} {out:List Int} {w n e:Bs}
end
def from_ (n a b:Int):Bool:=decide (a≤n)&&decide (n≤b)
def right (c:Cl) (tiers self services:Int):Bool:=from_ c.to 0 (services-1)&&!decide (c.to=self)&&from_ c.tier 0 tiers&&from_ c.weight 1 8&&from_ c.most 1 65535
def okU (cs:List Cl) (tiers self services:Int):Nat→Bool
  | 0=>true
  | k+1=>okU cs tiers self services k&&(match cs[k]? with
    | some c=>!((cs.take k).any fun d=>decide (d.to=c.to))&&right c tiers self services
    | none=>true)
def callsOk (cs:List Cl) (tiers self services:Int):Bool:=decide (cs.length≤6)&&okU cs tiers self services cs.length
section
variable {cs:List Cl} {tiers self services:Int} {k:Nat} {c:Cl}
theorem okU_next (h:okU cs tiers self services k=true) (hc:cs[k]?=some c) (h1:((cs.take k).any fun d=>decide (d.to=c.to))=false) (h2:right c tiers self services=true):okU cs tiers self services (k+1)=true:=by
  simp [okU,h,hc,h1,h2]
theorem okU_bad (hc:cs[k]?=some c) (hb:((cs.take k).any fun d=>decide (d.to=c.to))=true∨right c tiers self services=false):∀ m,k < m→okU cs tiers self services m=false:=by
  intro m
  induction m with
  | zero=>intro h;omega
  | succ m ih =>
    intro hm
    by_cases he:m=k
    · subst he
      rcases hb with hb|hb<;>simp [okU,hc,hb]
    · simp [okU,ih (by omega)]
theorem callsOk_many (h:6 < cs.length):callsOk cs tiers self services=false:=by simp [callsOk];intro h2;omega
theorem callsOk_bad (hc:cs[k]?=some c) (hb:((cs.take k).any fun d=>decide (d.to=c.to))=true∨right c tiers self services=false):callsOk cs tiers self services=false:=by
  have:=okU_bad hc hb cs.length (List.getElem?_eq_some_iff.1 hc).1
  simp [callsOk,this]
theorem callsOk_all (h:okU cs tiers self services k=true) (hk:¬k < cs.length) (hk2:k≤cs.length) (h6:¬6 < cs.length):callsOk cs tiers self services=true:=by
  have:k=cs.length:=by omega
  subst this
  simp [callsOk,h];omega
end
def roomOk (l:List Int):Bool:=match l with
  | [a,b,c,d,e,f,_,_,_,_,_,_,_]=>from_ a 1 16&&from_ b 1 64&&from_ c 1 64&&from_ d 0 7&&from_ e 0 256&&from_ f 0 1099511627776
  | _=>false
def check (l:List Int) (cs:List Cl) (self services levels:Int):Int :=
  if from_ services 1 8&&from_ self 0 (services-1)&&roomOk l&&callsOk cs ((l[3]?).getD 0) self services then Kn.check (l.drop 6) levels else 10
def indexF (p:Cl→Bool) (l:List Cl):Int:=match l.findIdx? p with|some k=>k|none=>-1
theorem indexF_nn {p:Cl→Bool} {l:List Cl}:decide (0≤indexF p l)=l.any p:=by
  unfold indexF
  cases h:l.findIdx? p with
  | none =>
    rw [List.findIdx?_eq_none_iff] at h
    have:l.any p=false:=List.any_eq_false.2 fun x hx=>by simpa using h x hx
    rw [this];decide
  | some k =>
    obtain ⟨hk,hp,_⟩:=List.findIdx?_eq_some_iff_getElem.1 h
    have:l.any p=true:=List.any_eq_true.2 ⟨l[k],List.getElem_mem hk,hp⟩
    rw [this,decide_eq_true_eq]
    exact Int.natCast_nonneg k
theorem indexF_no {p:Cl→Bool} {l:List Cl} {k:Nat} (hn:∀ j x,j < k→l[j]?=some x→p x=false) (hk:¬k < l.length):indexF p l=-1:=by
  unfold indexF
  rw [List.findIdx?_eq_none_iff.2 fun x hx=>by
    obtain ⟨j,hj⟩:=List.mem_iff_getElem?.1 hx
    have hlt:=(List.getElem?_eq_some_iff.1 hj).1
    simp [hn j x (by omega) hj]]
theorem indexF_at {p:Cl→Bool} {l:List Cl} {k:Nat} {e:Cl} (hn:∀ j x,j < k→l[j]?=some x→p x=false) (he:l[k]?=some e) (h:p e=true):indexF p l=k:=by
  unfold indexF
  obtain ⟨hlt,rfl⟩:=List.getElem?_eq_some_iff.1 he
  rw [List.findIdx?_eq_some_iff_getElem.2 ⟨hlt,h,fun j hj=>by
    have:=hn j l[j] hj (List.getElem?_eq_getElem (by omega))
    simp [this]⟩]
theorem from_bnd {n a b:Int} (h:from_ n a b=true):a≤n∧n≤b:=by simpa [from_] using h
theorem check_yes {l:List Int} {cs:List Cl} {self services levels:Int} (h1:from_ services 1 8=true) (h2:from_ self 0 (services-1)=true) (h3:roomOk l=true) (h4:callsOk cs ((l[3]?).getD 0) self services=true):check l cs self services levels=Kn.check (l.drop 6) levels:=by
  simp [check,h1,h2,h3,h4]
theorem check_no {l:List Int} {cs:List Cl} {self services levels:Int} (h:(from_ services 1 8&&from_ self 0 (services-1)&&roomOk l&&callsOk cs ((l[3]?).getD 0) self services)=false):check l cs self services levels=10:=by
  rw [check,h];rfl
end Go.LK.Cf
namespace Go.LK
open Go Go.RowKit
structure Sg where
  x0:Int
  x1:Int
  x2:Int
  x3:Int
  x4:Int
  x5:Int
  x6:Int
  x7:Int
  x8:Int
  x9:Int
  x10:Int
  x11:Int
  x12:Int
  cv:Value
  cl:List Cl
  ok:cv.oneCell'=true
def Sg.nums (s:Sg):List Int:=[s.x0,s.x1,s.x2,s.x3,s.x4,s.x5,s.x6,s.x7,s.x8,s.x9,s.x10,s.x11,s.x12]
def Sg.cells (s:Sg):List Value:=[.int .i64 s.x0,.int .i64 s.x1,.int .i64 s.x2,.int .i64 s.x3,.int .i64 s.x4,.int .i64 s.x5,.int .i64 s.x6,.int .i64 s.x7,.int .i64 s.x8,.int .i64 s.x9,.int .i64 s.x10,.int .i64 s.x11,.int .i64 s.x12,s.cv]
theorem Sg.one {l:List Sg}:∀ a∈l,(Sg.cells a).all Value.oneCell'=true:=fun a _=>by
  simp only [Sg.cells,List.all_cons,List.all_nil,a.ok];rfl
def Sg.row (T:Nat) (s:Sg):Sp:=LK.row s.cv T 4 (s.cl.map Cl.cells)
def Sg.rd (s:Sg):Sp:=LK.rd s.cv 4 (s.cl.map Cl.cells)
theorem sg_ros {T:Nat} {l:List Sg}:∀ w,(bun (l.map (Sg.row T))).holds w→(ros (l.map Sg.rd)).holds w∧∀ k∈(ros (l.map Sg.rd)).foot,k∈(bun (l.map (Sg.row T))).foot:=bun_ros fun _ _=>row_rd
theorem to_at {l:List Cl} {k:Nat} {c:Cl} (h:l[k]?=some c):(l.map Cl.to)[k]?=some c.to:=by rw [List.getElem?_map,h];rfl
structure Lz where
  v:Value
  l:List Int
def Lz.rd (x:Lz):Sp:=LK.rd x.v 1 (x.l.map encZ)
abbrev gOf (l:List Sg):List (List Int):=l.map fun s=>s.cl.map Cl.to
theorem gOf_len {l:List Sg}:(gOf l).length=l.length:=List.length_map _
theorem gOf_at {l:List Sg} {i:Nat} {s:Sg} (h:l[i]?=some s):(gOf l)[i]?=some (s.cl.map Cl.to):=by unfold gOf;rw [List.getElem?_map,h];rfl
end Go.LK
namespace Go.LK.Gr
open Go Go.LK
section
variable {g:List (List Int)} {cl:List Int} {f x t:Int} {i j k q n p:Nat} {o:List Nat}
def calledF (n:Nat) (o:List Int) (t:Int):List Int:=if 0≤t∧t < (n:Int)∧t∉o then o++[t] else o
def calledK (n:Nat) (cl:List Int) (k:Nat):List Int:=(cl.take k).foldl (calledF n) []
def called (g:List (List Int)) (f:Int):List Int:=if f < 0∨(g.length:Int)≤f then [] else (g.getD f.toNat []).foldl (calledF g.length) []
theorem called_out (h:f < 0∨(g.length:Int)≤f):called g f=[]:=if_pos h
theorem called_in (h0:¬f < 0) (h1:¬(g.length:Int)≤f) (hx:g[f.toNat]?=some cl) (hk:¬k < cl.length):calledK g.length cl k=called g f:=by
  unfold called calledK
  rw [if_neg (by omega),List.take_of_length_le (by omega),List.getD_eq_getElem?_getD,hx];rfl
theorem calledK_yes (hx:cl[k]?=some t) (h0:0≤t) (h1:t < (n:Int)) (h2:t∉calledK n cl k):calledK n cl (k+1)=calledK n cl k++[t]:=by
  unfold calledK at h2 ⊢
  rw [List.take_add_one,hx,List.foldl_append]
  exact if_pos ⟨h0,h1,h2⟩
theorem calledK_no (hx:cl[k]?=some t) (h:¬(0≤t∧t < (n:Int)∧t∉calledK n cl k)):calledK n cl (k+1)=calledK n cl k:=by
  unfold calledK at h ⊢
  rw [List.take_add_one,hx,List.foldl_append]
  exact if_neg h
theorem mem_fold:∀ {cl o:List Int},x∈cl.foldl (calledF n) o↔x∈o∨(x∈cl∧0≤x∧x < (n:Int))
  | [],o=>by simp
  | t :: cl,o=>by
    rw [List.foldl_cons,mem_fold]
    unfold calledF
    by_cases h:0≤t∧t < (n:Int)∧t∉o
    · rw [if_pos h,List.mem_append,List.mem_singleton,List.mem_cons]
      constructor
      · rintro ((h1|h1)|h1)
        · exact .inl h1
        · subst h1;exact .inr ⟨.inl rfl,h.1,h.2.1⟩
        · exact .inr ⟨.inr h1.1,h1.2⟩
      · rintro (h1|⟨h1|h1,h2⟩)
        · exact .inl (.inl h1)
        · exact .inl (.inr h1)
        · exact .inr ⟨h1,h2⟩
    · rw [if_neg h,List.mem_cons]
      constructor
      · rintro (h1|h1)
        · exact .inl h1
        · exact .inr ⟨.inr h1.1,h1.2⟩
      · rintro (h1|⟨h1|h1,h2⟩)
        · exact .inl h1
        · subst h1
          exact .inl (Classical.byContradiction fun hn=>h ⟨h2.1,h2.2,hn⟩)
        · exact .inr ⟨h1,h2⟩
theorem nodup_fold:∀ {cl o:List Int},o.Nodup→(cl.foldl (calledF n) o).Nodup
  | [],_,h=>h
  | t :: cl,o,h=>by
    rw [List.foldl_cons]
    refine nodup_fold ?_
    unfold calledF
    split
    · rename_i hc
      exact List.nodup_append.2 ⟨h,by simp,fun a ha b hb=>by simp at hb;subst hb;exact fun e=>hc.2.2 (e ▸ ha)⟩
    · exact h
theorem mem_called:x∈called g f↔∃ i j:Nat,f=i∧x=j∧e g i j=true:=by
  unfold called
  by_cases h:f < 0∨(g.length:Int)≤f
  · rw [if_pos h]
    constructor
    · intro hx;simp at hx
    · rintro ⟨i,j,rfl,_,he⟩
      have:=(e_lt he).1
      omega
  · rw [if_neg h,mem_fold]
    simp only [List.not_mem_nil,false_or]
    constructor
    · rintro ⟨h1,h2,h3⟩
      refine ⟨f.toNat,x.toNat,by omega,by omega,?_⟩
      unfold e
      simp only [Bool.and_eq_true,decide_eq_true_eq,List.contains_eq_mem]
      exact ⟨⟨by omega,by omega⟩,by rw [show ((x.toNat:Nat):Int)=x from by omega];exact h1⟩
    · rintro ⟨i,j,rfl,rfl,he⟩
      have hl:=e_lt he
      unfold e at he
      simp only [Bool.and_eq_true,decide_eq_true_eq,List.contains_eq_mem] at he
      exact ⟨by simpa using he.2,by omega,by omega⟩
theorem mem_called_nat:(j:Int)∈called g (i:Int)↔e g i j=true:=by
  rw [mem_called]
  constructor
  · rintro ⟨a,b,h1,h2,h3⟩
    have ha:a=i:=by omega
    have hb:b=j:=by omega
    rw [←ha,←hb];exact h3
  · exact fun h=>⟨i,j,rfl,rfl,h⟩
theorem called_nodup:(called g f).Nodup:=by
  unfold called;split
  · simp
  · exact nodup_fold (by simp)
theorem called_bnd (h:(called g f)[q]?=some t):∃ j:Nat,t=j∧j < g.length:=by
  obtain ⟨i,j,_,h2,h3⟩:=mem_called.1 (List.mem_of_getElem? h)
  exact ⟨j,h2,(e_lt h3).2⟩
theorem called_len:(called g f).length≤g.length:=by
  have:=nodup_len (ks:=called g f) (l:=(List.range g.length).map fun (n:Nat)=>(n:Int)) called_nodup fun k hk=>by
    obtain ⟨i,j,_,rfl,h⟩:=mem_called.1 hk
    exact List.mem_map.2 ⟨j,List.mem_range.2 (e_lt h).2,rfl⟩
  simpa using this
def calls (g:List (List Int)) (a b:Int):Bool:=decide (0≤a)&&decide (a < (g.length:Int))&&decide (0≤b)&&decide (b < (g.length:Int))&&(g.getD a.toNat []).contains b
def rowN (n:Nat) (F:Nat→Int):List Int:=(List.range n).map F
theorem rowN_len {F:Nat→Int}:(rowN n F).length=n:=by simp [rowN]
theorem rowN_get {F:Nat→Int} (h:j < n):(rowN n F)[j]?=some (F j):=by simp [rowN,h]
theorem rowN_ext {F G:Nat→Int} (h:∀ j,j < n→F j=G j):rowN n F=rowN n G:=List.map_congr_left fun j hj=>h j (List.mem_range.1 hj)
theorem rowN_set {F:Nat→Int}:(rowN n F).set j x=rowN n fun i=>if i=j then x else F i:=by
  apply List.ext_getElem?
  intro i
  rw [List.getElem?_set]
  unfold rowN
  simp only [List.getElem?_map,List.length_map,List.length_range]
  by_cases hi:i < n
  · by_cases hj:j=i
    · subst hj;simp [hi]
    · have:¬i=j:=fun e=>hj e.symm
      simp [hj,hi,this]
  · by_cases hj:j=i
    · subst hj;simp [hi]
    · simp [hj,hi]
def cw (g:List (List Int)) (i j:Nat):Nat:=((List.range i).filter fun c=>e g c j).length
def waitQ (g:List (List Int)) (i q:Nat):List Int:=rowN g.length fun j=>(cw g i j:Int)+if (j:Int)∈(called g (i:Int)).take q then 1 else 0
theorem cw_succ:cw g (i+1) j=cw g i j+if e g i j then 1 else 0:=by
  unfold cw;rw [List.range_succ,List.filter_append,List.length_append]
  cases h:e g i j<;>simp [h]
theorem waitQ_zero:List.replicate g.length 0=waitQ g 0 0:=by
  refine (List.eq_replicate_iff.2 ⟨by simp [waitQ,rowN],fun b hb=>?_⟩).symm
  unfold waitQ rowN at hb
  obtain ⟨j,_,rfl⟩:=List.mem_map.1 hb
  simp [cw]
end
end Go.LK.Gr
namespace Go.LK.Gr
open Go Go.LK
section
variable {g:List (List Int)} {t x:Int} {i j k q n p m:Nat} {o:List Nat}
theorem take_next {l:List Int} (hn:l.Nodup) (hq:l[q]?=some t):t∉l.take q∧∀ y,y∈l.take (q+1)↔y∈l.take q∨y=t:=by
  constructor
  · intro h
    obtain ⟨i,hi⟩:=List.mem_iff_getElem?.1 h
    rw [List.getElem?_take] at hi
    split at hi
    · rename_i hlt
      have h1:=(List.getElem?_eq_some_iff.1 hi)
      have h2:=(List.getElem?_eq_some_iff.1 hq)
      obtain ⟨a,ha⟩:=h1
      obtain ⟨b,hb⟩:=h2
      have:=List.pairwise_iff_getElem.1 hn i q a b hlt
      exact this (ha.trans hb.symm)
    · cases hi
  · intro y
    rw [List.take_add_one,hq,List.mem_append];simp
theorem waitQ_next (hq:(called g (i:Int))[q]?=some t) (hx:(waitQ g i q)[t.toNat]?=some x):(waitQ g i q).set t.toNat (x+1)=waitQ g i (q+1):=by
  obtain ⟨j,rfl,hj⟩:=called_bnd hq
  rw [Int.toNat_natCast] at hx ⊢
  obtain ⟨h1,h2⟩:=take_next called_nodup hq
  unfold waitQ at hx ⊢
  rw [rowN_get hj] at hx
  rw [rowN_set]
  refine rowN_ext fun i' _=>?_
  by_cases he:i'=j
  · subst he
    rw [if_pos rfl,←Option.some.inj hx,if_neg h1,if_pos ((h2 _).2 (.inr rfl))];omega
  · rw [if_neg he]
    have hne:¬(i':Int)=j:=by omega
    have:(i':Int)∈(called g (i:Int)).take (q+1)↔(i':Int)∈(called g (i:Int)).take q:=by rw [h2];simp [hne]
    simp only [this]
theorem waitQ_row (h:(called g (i:Int)).length≤q):waitQ g i q=waitQ g (i+1) 0:=by
  unfold waitQ
  refine rowN_ext fun j _=>?_
  rw [List.take_of_length_le h,cw_succ]
  simp only [mem_called_nat,List.take_zero,List.not_mem_nil,if_false]
  split<;>simp_all
def leftL (g:List (List Int)) (o:List Nat):List Int:=rowN g.length fun j=>if j∈o then -1 else (cnt g o j:Int)
theorem waitQ_all:waitQ g g.length 0=leftL g []:=by
  unfold waitQ leftL
  refine rowN_ext fun j _=>?_
  simp only [List.take_zero,List.not_mem_nil,if_false,cw,cnt]
  simp
theorem cw_le:cw g i j≤i:=by unfold cw;exact Nat.le_trans (List.length_filter_le _ _) (by simp)
theorem cnt_le:cnt g o j≤g.length:=by unfold cnt;exact Nat.le_trans (List.length_filter_le _ _) (by simp)
theorem waitQ_len:(waitQ g i q).length=g.length:=rowN_len
theorem leftL_len:(leftL g o).length=g.length:=rowN_len
theorem waitQ_bnd (hx:(waitQ g i q)[m]?=some x):0≤x∧x≤i+1:=by
  have hm:m < g.length:=by have:=(List.getElem?_eq_some_iff.1 hx).1;rwa [waitQ_len] at this
  unfold waitQ at hx
  rw [rowN_get hm] at hx
  have:=cw_le (g:=g) (i:=i) (j:=m)
  have h2:=Option.some.inj hx
  split at h2<;>omega
def leftQ (g:List (List Int)) (o:List Nat) (p q:Nat):List Int:=rowN g.length fun j=>if j∈o++[p] then -1 else (cnt g o j:Int)-if (j:Int)∈(called g (p:Int)).take q then 1 else 0
theorem leftQ_len:(leftQ g o p q).length=g.length:=rowN_len
theorem leftQ_bnd (hx:(leftQ g o p q)[m]?=some x):-1≤x∧x≤g.length:=by
  have hm:m < g.length:=by have:=(List.getElem?_eq_some_iff.1 hx).1;rwa [leftQ_len] at this
  unfold leftQ at hx
  rw [rowN_get hm] at hx
  have:=cnt_le (g:=g) (o:=o) (j:=m)
  have h2:=Option.some.inj hx
  split at h2
  · omega
  · split at h2<;>omega
theorem leftQ_zero:(leftL g o).set p (-1)=leftQ g o p 0:=by
  unfold leftL leftQ
  rw [rowN_set]
  refine rowN_ext fun j _=>?_
  by_cases h:j=p
  · simp [h]
  · by_cases h2:j∈o<;>simp [h,h2]
theorem leftQ_next (ho:ordN g k=some o) (hp:pick g o=some p) (hq:(called g (p:Int))[q]?=some t) (hx:(leftQ g o p q)[t.toNat]?=some x):(leftQ g o p q).set t.toNat (x-1)=leftQ g o p (q+1):=by
  obtain ⟨a,j,ha,hj1,he⟩:=mem_called.1 (List.mem_of_getElem? hq)
  have hap:a=p:=by omega
  subst hap hj1
  have hj:=(e_lt he).2
  rw [Int.toNat_natCast] at hx ⊢
  obtain ⟨h1,h2⟩:=take_next called_nodup hq
  obtain ⟨hp1,hp2,hp3⟩:=pick_some hp
  have hjo:j∉o++[a]:=by
    intro hin
    rcases List.mem_append.1 hin with hin|hin
    · exact hp2 (ord_closed ho j hin a he)
    · simp at hin;subst hin
      exact hp2 (hp3 _ he)
  unfold leftQ at hx ⊢
  rw [rowN_get hj,if_neg hjo,if_neg h1] at hx
  rw [rowN_set]
  refine rowN_ext fun i' _=>?_
  by_cases hee:i'=j
  · subst hee
    rw [if_pos rfl,←Option.some.inj hx,if_neg hjo,if_pos ((h2 _).2 (.inr rfl))];omega
  · rw [if_neg hee]
    have hne:¬(i':Int)=j:=by omega
    have:(i':Int)∈(called g (a:Int)).take (q+1)↔(i':Int)∈(called g (a:Int)).take q:=by rw [h2];simp [hne]
    simp only [this]
theorem count_one {f:Nat→Bool}:∀ {l:List Nat},l.Nodup→p∈l→(l.filter f).length=(l.filter fun c=>f c&&!(c == p)).length+if f p then 1 else 0
  | [],_,h=>by simp at h
  | c :: l,hn,h=>by
    have hn':=List.nodup_cons.1 hn
    by_cases hc:c=p
    · subst hc
      have:l.filter (fun d=>f d&&!(d == c))=l.filter f:=List.filter_congr fun d hd=>by
        have:¬d=c:=fun e=>hn'.1 (e ▸ hd)
        simp [this]
      rw [List.filter_cons,List.filter_cons,this]
      cases hf:f c<;>simp
    · have hm:p∈l:=by
        rcases List.mem_cons.1 h with h|h
        · exact absurd h.symm hc
        · exact h
      have ih:=count_one (f:=f) hn'.2 hm
      rw [List.filter_cons,List.filter_cons]
      cases hf:f c
      · simpa [hf] using ih
      · simp only [if_true,hf,hc,beq_iff_eq,Bool.true_and,Bool.not_eq_true',List.length_cons]
        have hb:(c == p)=false:=by simpa using hc
        rw [hb]
        simp only [if_true,List.length_cons]
        omega
theorem cnt_next (hp:p < g.length) (ho:p∉o):cnt g o j=cnt g (o++[p]) j+if e g p j then 1 else 0:=by
  unfold cnt
  rw [count_one (p:=p) List.nodup_range (List.mem_range.2 hp)]
  have:(fun c=>(e g c j&&!o.contains c)&&!(c == p))=fun c=>e g c j&&!(o++[p]).contains c:=by
    funext c
    by_cases hc:c=p<;>simp [hc]
  rw [this]
  simp [ho]
theorem leftQ_end (hp:pick g o=some p) (h:(called g (p:Int)).length≤q):leftQ g o p q=leftL g (o++[p]):=by
  obtain ⟨hp1,hp2,_⟩:=pick_some hp
  unfold leftQ leftL
  refine rowN_ext fun j _=>?_
  rw [List.take_of_length_le h]
  have:=cnt_next (j:=j) hp1 hp2
  simp only [mem_called_nat]
  split
  · rfl
  · split<;>simp_all<;>omega
theorem idx_none {kx:Int} (h:Jb.IdxP (leftL g o) 0 kx) (hk:kx < 0):pick g o=none:=by
  rcases h with ⟨_,h⟩|⟨n,rfl,_⟩
  · refine pick_stop fun j hj=>?_
    by_cases hjo:j∈o
    · exact .inl hjo
    · refine .inr fun hc=>h ?_
      refine List.mem_of_getElem? (i:=j) ?_
      unfold leftL
      rw [rowN_get hj,if_neg hjo,hc];rfl
  · omega
theorem idx_some {kx:Int} (h:Jb.IdxP (leftL g o) 0 kx) (hk:¬kx < 0):∃ p:Nat,kx=p∧pick g o=some p:=by
  rcases h with ⟨rfl,_⟩|⟨n,rfl,h1,h2⟩
  · omega
  · have hn:n < g.length:=by have:=(List.getElem?_eq_some_iff.1 h1).1;rwa [leftL_len] at this
    refine ⟨n,rfl,pick_at hn ?_ ?_ fun j hj=>?_⟩
    · intro hin
      unfold leftL at h1
      rw [rowN_get hn,if_pos hin] at h1;simp at h1
    · unfold leftL at h1
      rw [rowN_get hn] at h1
      split at h1<;>simp at h1
      omega
    · by_cases hjo:j∈o
      · exact .inl hjo
      · refine .inr fun hc=>?_
        refine h2 j hj _ (show (leftL g o)[j]?=some ((cnt g o j:Int)) from ?_) (by rw [hc];rfl)
        unfold leftL
        rw [rowN_get (by omega),if_neg hjo]
def ordL (g:List (List Int)):List Int:=((ordN g g.length).getD []).map fun (n:Nat)=>(n:Int)
theorem ordL_yes (h:ordN g g.length=some o):ordL g=o.map fun (n:Nat)=>(n:Int):=by unfold ordL;rw [h];rfl
theorem ordL_no (h:ordN g g.length=none):ordL g=[]:=by unfold ordL;rw [h];rfl
theorem ord_more (ho:ordN g k=some o) (hp:pick g o=some p):ordN g (k+1)=some (o++[p]):=by simp [ordN,ho,hp]
theorem ord_stop (ho:ordN g k=some o) (hp:pick g o=none) (hk:k < g.length):ordN g g.length=none:=ord_none (k:=k+1) (by simp [ordN,ho,hp]) _ (by omega)
end
end Go.LK.Gr
namespace Go.LK.Cf
open Go Go.LK Go.LK.Wd
section
variable {word:Bs} {ns:List Bs} {l:List Int}
end
section
variable {n:List Int} {cs:List Cl} {k:Nat} {e:Bs}
end
section
variable {α:Type} {p:α→Prop} {l:List α} {k:Nat} {e:α}
end
section
variable {α:Type} {f:α→List Int} {l m:List α} {k:Nat} {x y:α}
end
theorem check_no13 {x0 x1 x2 x3 x4 x5 x6 x7 x8 x9 x10 x11 x12:Int} {cs:List Cl} {self services levels:Int} (h:(from_ services 1 8&&from_ self 0 (services-1)&&(from_ x0 1 16&&from_ x1 1 64&&from_ x2 1 64&&from_ x3 0 7&&from_ x4 0 256&&from_ x5 0 1099511627776)&&callsOk cs x3 self services)=false):check [x0,x1,x2,x3,x4,x5,x6,x7,x8,x9,x10,x11,x12] cs self services levels=10:=check_no h
theorem check_yes13 {x0 x1 x2 x3 x4 x5 x6 x7 x8 x9 x10 x11 x12:Int} {cs:List Cl} {self services levels:Int} (h1:from_ services 1 8=true) (h2:from_ self 0 (services-1)=true) (h3:(from_ x0 1 16&&from_ x1 1 64&&from_ x2 1 64&&from_ x3 0 7&&from_ x4 0 256&&from_ x5 0 1099511627776)=true) (h4:callsOk cs x3 self services=true):check [x0,x1,x2,x3,x4,x5,x6,x7,x8,x9,x10,x11,x12] cs self services levels=Kn.check [x6,x7,x8,x9,x10,x11,x12] levels:=check_yes h1 h2 h3 h4
abbrev want (r:Bool) (c:Cl):Bool:=decide (c.tier=0) == r
end Go.LK.Cf
