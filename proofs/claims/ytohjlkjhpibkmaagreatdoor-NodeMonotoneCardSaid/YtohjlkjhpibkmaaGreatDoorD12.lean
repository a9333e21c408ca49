/-
  Rules and plain laws that the walks use.
-/
import Derived.KernelRfl
import Derived.Test.YtohjlkjhpibkmaaGreatDoorD11
import Derived.Test.YtohjlkjhpibkmaaGreatDoorD05
import Derived.Test.YtohjlkjhpibkmaaGreatDoorD04
import Derived.WideKeyEntry
set_option linter.unusedSimpArgs false
set_option linter.unusedVariables false
namespace Go.Proofs.YtohjlkjhpibkmaaGreatDoor
open Go Go.LK Go.Proofs.Tryz
set_option maxRecDepth 100000
set_option maxHeartbeats 4000000
theorem so_mrg (k:Nat) (V:Value) (l:List Im) (a q b:Int) (hl:l.length≤100000) (ha:0≤a) (haq:a < q) (hqb:q < b) (hb:b≤l.length) (hk:(b-a).toNat < k):Tri prog 378 #[V,.int .i64 a,.int .i64 q,.int .i64 b,.func (.func 295) #[] #[]] [] [row V 66 7 (l.map Im.cells)] (fun v L'=>v=.tuple #[]∧∃ m:List Im,m.Perm l∧L'=[row V 66 7 (m.map Im.cells)]):=by
  induction k generalizing l a q b with
  | zero=>exact absurd hk (Nat.not_lt_zero _)
  | succ k ih =>
  have hp:l.Perm l:=List.Perm.refl l
  refine Tri.en func378 H ntmps378 H fun w0=>?_
  refine J.co 5 H ?_
  refine O.p (Pu.sub' H H (by omega)) H ?_
  refine O.oc 2 H ?_
  refine J.cd H (fun p1=>?_) (fun p1=>?_)
  ·
    refine J.cc 12 H ?_
    refine J.lo (X:=Int×Int) (fun (x,y)=>q≤x∧x≤y∧y≤b) (fun (x,y)=>[(10,.int .i64 x),(11,.int .i64 y)]) (fun (x,y)=>[]) (fun (x,y)=>(y-x).toNat) ⟨q,b⟩ [0,1,2,3,4] [] [0] ⟨by omega,by omega,by omega⟩ ⟨H,H,trivial⟩ H H ?_
    rintro ⟨x,y⟩ ⟨hx0,hxy,hy1⟩
    refine J.cc 7 H ?_
    refine J.cd H (fun p2=>?_) (fun p2=>?_)
    ·
      refine J.co 6 H ?_
      refine O.p (Pu.add' H H (by omega)) H ?_
      refine O.p (Pu.conv U3 U377 H) H ?_
      refine O.p (Pu.shr1 H H H) H ?_
      refine O.p (Pu.to (Pu.conv U377 U3 H) (congrArg (Value.int .i64) (half (by omega) (by omega)))) H ?_
      refine O.oc 3 H ?_
      refine J.drawTail 9 Tryz.mixed (by kernel_rfl) ?_
      refine S.r 3 H ?_
      obtain ⟨e3,he3⟩:=ex_at (l:=l) (i:=((x+y) / 2).toNat) (by omega)
      refine S.q (Qt.ix U52 Z66 H (Src.row 0 H) he3 H (by omega)) H ?_
      refine S.q (Qt.lea A66 Z66 (Src.row 0 H) he3 0 H (by omega) H) H ?_
      refine S.r 2 H ?_
      obtain ⟨e4,he4⟩:=ex_at (l:=l) (i:=(a).toNat) (by omega)
      refine S.q (Qt.ix U52 Z66 H (Src.row 0 H) he4 H (by omega)) H ?_
      refine S.q (Qt.lea A66 Z66 (Src.row 0 H) he4 0 H (by omega) H) H ?_
      refine S.endO ?_
      refine O.l (Lo.cv call295 H H (rk_going e3 e4) [] H .nil) H ?_
      rintro _ _ ⟨_,⟨rfl,rfl⟩,rfl⟩
      refine O.oc 2 H ?_
      refine J.cd H (fun p6=>?_) (fun p6=>?_)
      ·
        refine J.co 2 H ?_
        refine O.p (Pu.add' H H (by omega)) H ?_
        refine O.oc 3 H ?_
        exact J.lq ⟨((x+y) / 2)+1,y⟩ [0,1,2,3,4] [] [0] ⟨by omega,by omega,by omega⟩ (by dsimp only;omega) ⟨H,H,trivial⟩ H H
      ·
        refine J.cc 5 H ?_
        exact J.lq ⟨x,(x+y) / 2⟩ [0,1,2,3,4] [] [0] ⟨by omega,by omega,by omega⟩ (by dsimp only;omega) ⟨H,H,trivial⟩ H H
    ·
      refine J.cc 8 H ?_
      refine J.lo (X:=Int×List Im) (fun (z,m)=>a≤z∧m.Perm l) (fun (z,m)=>[(13,.int .i64 z)]) (fun (z,m)=>[row V 66 7 (m.map Im.cells)]) (fun (z,m)=>(x-z).toNat) ⟨a,l⟩ [0,1,2,3,4,10] [0] [] ⟨by omega,List.Perm.refl _⟩ ⟨H,trivial⟩ H H ?_
      rintro ⟨z,m⟩ ⟨hz,hp⟩
      refine J.co 5 H ?_
      refine O.p (Pu.sub' H H (by omega)) H ?_
      refine O.oc 2 H ?_
      refine J.cd H (fun p7=>?_) (fun p7=>?_)
      ·
        refine J.cc 3 H ?_
        refine J.dm [(0,false),(1,false),(2,false),(3,false),(4,false),(5,false),(6,false),(7,false),(8,false),(9,false),(10,false),(11,false),(12,false),(13,false),(14,false),(15,true),(16,false),(17,true)] [0] Tryz.mixed (by kernel_rfl) H ?_
        refine Mx.r 4 H ?_
        refine Mx.p H (Pu.add' H H (by omega)) H ?_
        refine Mx.r 2 H ?_
        refine Mx.p H (Pu.add' H H (by omega)) H ?_
        obtain ⟨e8,he8⟩:=ex_at (l:=m) (i:=(z+1).toNat) (by first|omega|(simp only [List.length_append,List.length_nil];omega)|(have hn:=hp.length_eq;first|omega|(simp only [List.length_set];omega)))
        refine Mx.q H (Qt.ix U52 Z66 H (Src.row 0 H) he8 H (by omega)) H ?_
        refine Mx.q H (Qt.lea A66 Z66 (Src.row 0 H) he8 0 H (by omega) H) H ?_
        refine Mx.r 2 H ?_
        obtain ⟨e9,he9⟩:=ex_at (l:=m) (i:=(z).toNat) (by first|omega|(simp only [List.length_append,List.length_nil];omega)|(have hn:=hp.length_eq;first|omega|(simp only [List.length_set];omega)))
        refine Mx.q H (Qt.ix U52 Z66 H (Src.row 0 H) he9 H (by omega)) H ?_
        refine Mx.q H (Qt.lea A66 Z66 (Src.row 0 H) he9 0 H (by omega) H) H ?_
        refine Mx.q H (Qt.ix U52 Z66 H (Src.row 0 H) he9 H (by omega)) H ?_
        refine Mx.l0 H (Lo.storeM 0 (j:=(z).toNat) (off:=0) (vs:=[.int .i64 e8.id,.int .i64 e8.level,.int .i64 e8.from_,.int .i64 e8.deadline,.int .i64 e8.budget,.int .i64 e8.since,.int .i64 e8.seq]) (e:=[.int .i64 e9.id,.int .i64 e9.level,.int .i64 e9.from_,.int .i64 e9.deadline,.int .i64 e9.budget,.int .i64 e9.since,.int .i64 e9.seq]) (⟨e8.id,e8.level,e8.from_,e8.deadline,e8.budget,e8.since,e8.seq⟩) H H H H (by omega) he9 H Z66 H H H H H) ?_
        rintro _ _ rfl
        refine MxK.al [0] H (by kernel_rfl) ?_
        obtain ⟨e11,he11⟩:=ex_at (l:=m.set (z).toNat (⟨e8.id,e8.level,e8.from_,e8.deadline,e8.budget,e8.since,e8.seq⟩)) (i:=(z+1).toNat) (by first|omega|(simp only [List.length_append,List.length_nil];omega)|(have hn:=hp.length_eq;first|omega|(simp only [List.length_set];omega)))
        refine Mx.q H (Qt.ix U52 Z66 H (Src.row 0 H) he11 H (by omega)) H ?_
        refine Mx.l0 H (Lo.storeM 0 (j:=(z+1).toNat) (off:=0) (vs:=[.int .i64 e9.id,.int .i64 e9.level,.int .i64 e9.from_,.int .i64 e9.deadline,.int .i64 e9.budget,.int .i64 e9.since,.int .i64 e9.seq]) (e:=[.int .i64 e11.id,.int .i64 e11.level,.int .i64 e11.from_,.int .i64 e11.deadline,.int .i64 e11.budget,.int .i64 e11.since,.int .i64 e11.seq]) (⟨e9.id,e9.level,e9.from_,e9.deadline,e9.budget,e9.since,e9.seq⟩) H H H H (by omega) he11 H Z66 H H H H H) ?_
        rintro _ _ rfl
        refine MxK.al [0] H (by kernel_rfl) ?_
        refine Mx.nil ?_
        refine J.co 3 H ?_
        refine O.p (Pu.add' H H (by omega)) H ?_
        refine O.oc 2 H ?_
        exact J.lq ⟨z+1,(m.set (z).toNat (⟨e8.id,e8.level,e8.from_,e8.deadline,e8.budget,e8.since,e8.seq⟩)).set (z+1).toNat (⟨e9.id,e9.level,e9.from_,e9.deadline,e9.budget,e9.since,e9.seq⟩)⟩ [0,1,2,3,4,10] [0] [] ⟨by omega,(Nd.swap_perm (by assumption) (by assumption)).trans hp⟩ (by dsimp only;omega) ⟨H,trivial⟩ H H
      ·
        refine J.cc 1 H ?_
        exact J.rn [] [0] H trivial H ⟨H,_,hp,H⟩
  ·
    refine J.co 6 H ?_
    refine O.p (Pu.sub' H H (by omega)) H ?_
    refine O.oc 2 H ?_
    refine J.cd H (fun p13=>?_) (fun p13=>?_)
    ·
      refine J.cc 12 H ?_
      refine J.lo (X:=Int×Int) (fun (x,y)=>a≤x∧x≤y∧y≤q) (fun (x,y)=>[(14,.int .i64 x),(15,.int .i64 y)]) (fun (x,y)=>[]) (fun (x,y)=>(y-x).toNat) ⟨a,q⟩ [0,1,2,3,4] [] [0] ⟨by omega,by omega,by omega⟩ ⟨H,H,trivial⟩ H H ?_
      rintro ⟨x,y⟩ ⟨hx0,hxy,hy1⟩
      refine J.cc 7 H ?_
      refine J.cd H (fun p14=>?_) (fun p14=>?_)
      ·
        refine J.co 6 H ?_
        refine O.p (Pu.add' H H (by omega)) H ?_
        refine O.p (Pu.conv U3 U377 H) H ?_
        refine O.p (Pu.shr1 H H H) H ?_
        refine O.p (Pu.to (Pu.conv U377 U3 H) (congrArg (Value.int .i64) (half (by omega) (by omega)))) H ?_
        refine O.oc 3 H ?_
        refine J.drawTail 9 Tryz.mixed (by kernel_rfl) ?_
        refine S.r 3 H ?_
        obtain ⟨e15,he15⟩:=ex_at (l:=l) (i:=(q).toNat) (by omega)
        refine S.q (Qt.ix U52 Z66 H (Src.row 0 H) he15 H (by omega)) H ?_
        refine S.q (Qt.lea A66 Z66 (Src.row 0 H) he15 0 H (by omega) H) H ?_
        refine S.r 2 H ?_
        obtain ⟨e16,he16⟩:=ex_at (l:=l) (i:=((x+y) / 2).toNat) (by omega)
        refine S.q (Qt.ix U52 Z66 H (Src.row 0 H) he16 H (by omega)) H ?_
        refine S.q (Qt.lea A66 Z66 (Src.row 0 H) he16 0 H (by omega) H) H ?_
        refine S.endO ?_
        refine O.l (Lo.cv call295 H H (rk_going e15 e16) [] H .nil) H ?_
        rintro _ _ ⟨_,⟨rfl,rfl⟩,rfl⟩
        refine O.oc 3 H ?_
        refine J.cond H (fun h18=>?_) (fun h18=>?_)
        ·
          have h19:(decide ((Nd.going e15 e16) < 0))=false:=not_flip h18
          have p20:=of_decide_eq_false h19
          refine J.co 2 H ?_
          refine O.p (Pu.add' H H (by omega)) H ?_
          refine O.oc 3 H ?_
          exact J.lq ⟨((x+y) / 2)+1,y⟩ [0,1,2,3,4] [] [0] ⟨by omega,by omega,by omega⟩ (by dsimp only;omega) ⟨H,H,trivial⟩ H H
        ·
          have h21:(decide ((Nd.going e15 e16) < 0))=true:=not_flip h18
          have p22:=of_decide_eq_true h21
          refine J.cc 5 H ?_
          exact J.lq ⟨x,(x+y) / 2⟩ [0,1,2,3,4] [] [0] ⟨by omega,by omega,by omega⟩ (by dsimp only;omega) ⟨H,H,trivial⟩ H H
      ·
        refine J.cc 8 H ?_
        refine J.lo (X:=Int×List Im) (fun (z,m)=>z≤q∧a≤z∧m.Perm l) (fun (z,m)=>[(17,.int .i64 z)]) (fun (z,m)=>[row V 66 7 (m.map Im.cells)]) (fun (z,m)=>(z-x).toNat) ⟨q,l⟩ [0,1,2,3,4,14] [0] [] ⟨by omega,by omega,List.Perm.refl _⟩ ⟨H,trivial⟩ H H ?_
        rintro ⟨z,m⟩ ⟨hz,hz2,hp⟩
        refine J.cc 7 H ?_
        refine J.cd H (fun p23=>?_) (fun p23=>?_)
        ·
          refine J.cc 3 H ?_
          refine J.dm [(0,false),(1,false),(2,false),(3,false),(4,false),(5,false),(6,false),(7,false),(8,false),(9,false),(10,false),(11,false),(12,false),(13,false),(14,false),(15,true),(16,false),(17,true)] [0] Tryz.mixed (by kernel_rfl) H ?_
          refine Mx.r 4 H ?_
          refine Mx.p H (Pu.sub' H H (by omega)) H ?_
          refine Mx.r 2 H ?_
          refine Mx.p H (Pu.sub' H H (by omega)) H ?_
          obtain ⟨e24,he24⟩:=ex_at (l:=m) (i:=(z-1).toNat) (by first|omega|(simp only [List.length_append,List.length_nil];omega)|(have hn:=hp.length_eq;first|omega|(simp only [List.length_set];omega)))
          refine Mx.q H (Qt.ix U52 Z66 H (Src.row 0 H) he24 H (by omega)) H ?_
          refine Mx.q H (Qt.lea A66 Z66 (Src.row 0 H) he24 0 H (by omega) H) H ?_
          refine Mx.r 2 H ?_
          obtain ⟨e25,he25⟩:=ex_at (l:=m) (i:=(z).toNat) (by first|omega|(simp only [List.length_append,List.length_nil];omega)|(have hn:=hp.length_eq;first|omega|(simp only [List.length_set];omega)))
          refine Mx.q H (Qt.ix U52 Z66 H (Src.row 0 H) he25 H (by omega)) H ?_
          refine Mx.q H (Qt.lea A66 Z66 (Src.row 0 H) he25 0 H (by omega) H) H ?_
          refine Mx.q H (Qt.ix U52 Z66 H (Src.row 0 H) he25 H (by omega)) H ?_
          refine Mx.l0 H (Lo.storeM 0 (j:=(z).toNat) (off:=0) (vs:=[.int .i64 e24.id,.int .i64 e24.level,.int .i64 e24.from_,.int .i64 e24.deadline,.int .i64 e24.budget,.int .i64 e24.since,.int .i64 e24.seq]) (e:=[.int .i64 e25.id,.int .i64 e25.level,.int .i64 e25.from_,.int .i64 e25.deadline,.int .i64 e25.budget,.int .i64 e25.since,.int .i64 e25.seq]) (⟨e24.id,e24.level,e24.from_,e24.deadline,e24.budget,e24.since,e24.seq⟩) H H H H (by omega) he25 H Z66 H H H H H) ?_
          rintro _ _ rfl
          refine MxK.al [0] H (by kernel_rfl) ?_
          obtain ⟨e27,he27⟩:=ex_at (l:=m.set (z).toNat (⟨e24.id,e24.level,e24.from_,e24.deadline,e24.budget,e24.since,e24.seq⟩)) (i:=(z-1).toNat) (by first|omega|(simp only [List.length_append,List.length_nil];omega)|(have hn:=hp.length_eq;first|omega|(simp only [List.length_set];omega)))
          refine Mx.q H (Qt.ix U52 Z66 H (Src.row 0 H) he27 H (by omega)) H ?_
          refine Mx.l0 H (Lo.storeM 0 (j:=(z-1).toNat) (off:=0) (vs:=[.int .i64 e25.id,.int .i64 e25.level,.int .i64 e25.from_,.int .i64 e25.deadline,.int .i64 e25.budget,.int .i64 e25.since,.int .i64 e25.seq]) (e:=[.int .i64 e27.id,.int .i64 e27.level,.int .i64 e27.from_,.int .i64 e27.deadline,.int .i64 e27.budget,.int .i64 e27.since,.int .i64 e27.seq]) (⟨e25.id,e25.level,e25.from_,e25.deadline,e25.budget,e25.since,e25.seq⟩) H H H H (by omega) he27 H Z66 H H H H H) ?_
          rintro _ _ rfl
          refine MxK.al [0] H (by kernel_rfl) ?_
          refine Mx.nil ?_
          refine J.co 3 H ?_
          refine O.p (Pu.sub' H H (by omega)) H ?_
          refine O.oc 2 H ?_
          exact J.lq ⟨z-1,(m.set (z).toNat (⟨e24.id,e24.level,e24.from_,e24.deadline,e24.budget,e24.since,e24.seq⟩)).set (z-1).toNat (⟨e25.id,e25.level,e25.from_,e25.deadline,e25.budget,e25.since,e25.seq⟩)⟩ [0,1,2,3,4,14] [0] [] ⟨by omega,by omega,(Nd.swap_perm (by assumption) (by assumption)).trans hp⟩ (by dsimp only;omega) ⟨H,trivial⟩ H H
        ·
          refine J.cc 1 H ?_
          exact J.rn [] [0] H trivial H ⟨H,_,hp,H⟩
    ·
      refine J.co 5 H ?_
      refine O.p (Pu.add' H H (by omega)) H ?_
      refine O.p (Pu.conv U3 U377 H) H ?_
      refine O.p (Pu.shr1 H H H) H ?_
      refine O.p (Pu.to (Pu.conv U377 U3 H) (congrArg (Value.int .i64) (half (by omega) (by omega)))) H ?_
      refine O.oo 6 H ?_
      refine O.p (Pu.add' H H (by omega)) H ?_
      refine O.oc 14 H ?_
      refine J.cd H (fun p29=>?_) (fun p29=>?_)
      ·
        refine J.co 4 H ?_
        refine O.p (Pu.sub' H H (by omega)) H ?_
        refine O.oo 9 H ?_
        refine O.p (Pu.sub' H H (by omega)) H ?_
        refine O.oc 4 H ?_
        refine J.lo (X:=Int×Int) (fun (x,y)=>(((a+b) / 2)+q)-b≤x∧x≤y∧y≤(a+b) / 2) (fun (x,y)=>[(20,.int .i64 x),(21,.int .i64 y)]) (fun (x,y)=>[]) (fun (x,y)=>(y-x).toNat) ⟨(((a+b) / 2)+q)-b,(a+b) / 2⟩ [0,1,2,3,4,18,19,22] [] [0] ⟨by omega,by omega,by omega⟩ ⟨H,H,trivial⟩ H H ?_
        rintro ⟨x,y⟩ ⟨hx0,hxy,hy1⟩
        refine J.cc 7 H ?_
        refine J.cd H (fun p30=>?_) (fun p30=>?_)
        ·
          refine J.co 6 H ?_
          refine O.p (Pu.add' H H (by omega)) H ?_
          refine O.p (Pu.conv U3 U377 H) H ?_
          refine O.p (Pu.shr1 H H H) H ?_
          refine O.p (Pu.to (Pu.conv U377 U3 H) (congrArg (Value.int .i64) (half (by omega) (by omega)))) H ?_
          refine O.oc 3 H ?_
          refine J.drawTail 11 Tryz.mixed (by kernel_rfl) ?_
          refine S.r 4 H ?_
          refine S.p (Pu.sub' H H (by omega)) H ?_
          obtain ⟨e31,he31⟩:=ex_at (l:=l) (i:=(((((a+b) / 2)+q)-1)-((x+y) / 2)).toNat) (by omega)
          refine S.q (Qt.ix U52 Z66 H (Src.row 0 H) he31 H (by omega)) H ?_
          refine S.q (Qt.lea A66 Z66 (Src.row 0 H) he31 0 H (by omega) H) H ?_
          refine S.r 2 H ?_
          obtain ⟨e32,he32⟩:=ex_at (l:=l) (i:=((x+y) / 2).toNat) (by omega)
          refine S.q (Qt.ix U52 Z66 H (Src.row 0 H) he32 H (by omega)) H ?_
          refine S.q (Qt.lea A66 Z66 (Src.row 0 H) he32 0 H (by omega) H) H ?_
          refine S.endO ?_
          refine O.l (Lo.cv call295 H H (rk_going e31 e32) [] H .nil) H ?_
          rintro _ _ ⟨_,⟨rfl,rfl⟩,rfl⟩
          refine O.oc 3 H ?_
          refine J.cond H (fun h34=>?_) (fun h34=>?_)
          ·
            have h35:(decide ((Nd.going e31 e32) < 0))=false:=not_flip h34
            have p36:=of_decide_eq_false h35
            refine J.co 2 H ?_
            refine O.p (Pu.add' H H (by omega)) H ?_
            refine O.oc 3 H ?_
            exact J.lq ⟨((x+y) / 2)+1,y⟩ [0,1,2,3,4,18,19,22] [] [0] ⟨by omega,by omega,by omega⟩ (by dsimp only;omega) ⟨H,H,trivial⟩ H H
          ·
            have h37:(decide ((Nd.going e31 e32) < 0))=true:=not_flip h34
            have p38:=of_decide_eq_true h37
            refine J.cc 5 H ?_
            exact J.lq ⟨x,(x+y) / 2⟩ [0,1,2,3,4,18,19,22] [] [0] ⟨by omega,by omega,by omega⟩ (by dsimp only;omega) ⟨H,H,trivial⟩ H H
        ·
          refine J.co 5 H ?_
          refine O.p (Pu.sub' H H (by omega)) H ?_
          refine O.oo 9 H ?_
          refine O.sd 181 H (fun p39=>?_) (fun p39=>?_)
          ·
            refine O.oc 5 H ?_
            refine J.cd H (fun p40=>?_) (fun p40=>?_)
            ·
              refine J.co 6 H ?_
              refine O.l (Lo.ca call389 (so_rot V l x q ((((a+b) / 2)+q)-x) (by omega) (by omega) (by omega) (by omega) (by omega)) [0] H H .nil) H ?_
              rintro _ _ ⟨_,⟨rfl,m41,hq42,rfl⟩,rfl⟩
              have hp:=hq42.trans hp
              refine O.oo 8 H ?_
              refine O.sd 195 H (fun p44=>?_) (fun p44=>?_)
              ·
                refine O.oc 5 H ?_
                refine J.cd H (fun p45=>?_) (fun p45=>?_)
                ·
                  refine J.co 6 H ?_
                  refine O.l (Lo.ca C378 (ih m41 a x ((a+b) / 2) (by first|omega|(simp only [List.length_append,List.length_nil];omega)|(have hn:=hp.length_eq;first|omega|(simp only [List.length_set];omega))) (by omega) (by omega) (by omega) (by first|omega|(simp only [List.length_append,List.length_nil];omega)|(have hn:=hp.length_eq;first|omega|(simp only [List.length_set];omega))) (by omega)) [0] H H .nil) H ?_
                  rintro _ _ ⟨_,⟨rfl,m46,hq47,rfl⟩,rfl⟩
                  have hp:=hq47.trans hp
                  refine O.oo 7 H ?_
                  refine O.sd 209 H (fun p49=>?_) (fun p49=>?_)
                  ·
                    refine O.oc 5 H ?_
                    refine J.cd H (fun p50=>?_) (fun p50=>?_)
                    ·
                      refine J.co 6 H ?_
                      refine O.l (Lo.ca C378 (ih m46 ((a+b) / 2) ((((a+b) / 2)+q)-x) b (by first|omega|(simp only [List.length_append,List.length_nil];omega)|(have hn:=hp.length_eq;first|omega|(simp only [List.length_set];omega))) (by omega) (by omega) (by omega) (by first|omega|(simp only [List.length_append,List.length_nil];omega)|(have hn:=hp.length_eq;first|omega|(simp only [List.length_set];omega))) (by omega)) [0] H H .nil) H ?_
                      rintro _ _ ⟨_,⟨rfl,m51,hq52,rfl⟩,rfl⟩
                      have hp:=hq52.trans hp
                      refine O.nil ?_
                      exact J.dn [] [0] H trivial H ⟨H,_,hp,H⟩
                    ·
                      refine J.skip ?_
                      exact J.dn [] [0] H trivial H ⟨H,_,hp,H⟩
                  ·
                    refine O.oc 7 H ?_
                    exact J.dn [] [0] H trivial H ⟨H,_,hp,H⟩
                ·
                  refine J.co 7 H ?_
                  refine O.sd 209 H (fun p54=>?_) (fun p54=>?_)
                  ·
                    refine O.oc 5 H ?_
                    refine J.cd H (fun p55=>?_) (fun p55=>?_)
                    ·
                      refine J.co 6 H ?_
                      refine O.l (Lo.ca C378 (ih m41 ((a+b) / 2) ((((a+b) / 2)+q)-x) b (by omega) (by omega) (by omega) (by omega) (by omega) (by omega)) [0] H H .nil) H ?_
                      rintro _ _ ⟨_,⟨rfl,m56,hq57,rfl⟩,rfl⟩
                      have hp:=hq57.trans hp
                      refine O.nil ?_
                      exact J.dn [] [0] H trivial H ⟨H,_,hp,H⟩
                    ·
                      refine J.skip ?_
                      exact J.dn [] [0] H trivial H ⟨H,_,hp,H⟩
                  ·
                    refine O.oc 7 H ?_
                    exact J.dn [] [0] H trivial H ⟨H,_,hp,H⟩
              ·
                refine O.oo 13 H ?_
                refine O.sd 209 H (fun p59=>?_) (fun p59=>?_)
                ·
                  refine O.oc 5 H ?_
                  refine J.cd H (fun p60=>?_) (fun p60=>?_)
                  ·
                    refine J.co 6 H ?_
                    refine O.l (Lo.ca C378 (ih m41 ((a+b) / 2) ((((a+b) / 2)+q)-x) b (by omega) (by omega) (by omega) (by omega) (by omega) (by omega)) [0] H H .nil) H ?_
                    rintro _ _ ⟨_,⟨rfl,m61,hq62,rfl⟩,rfl⟩
                    have hp:=hq62.trans hp
                    refine O.nil ?_
                    exact J.dn [] [0] H trivial H ⟨H,_,hp,H⟩
                  ·
                    refine J.skip ?_
                    exact J.dn [] [0] H trivial H ⟨H,_,hp,H⟩
                ·
                  refine O.oc 7 H ?_
                  exact J.dn [] [0] H trivial H ⟨H,_,hp,H⟩
            ·
              refine J.co 8 H ?_
              refine O.sd 195 H (fun p64=>?_) (fun p64=>?_)
              ·
                refine O.oc 5 H ?_
                refine J.cd H (fun p65=>?_) (fun p65=>?_)
                ·
                  refine J.co 6 H ?_
                  refine O.l (Lo.ca C378 (ih l a x ((a+b) / 2) (by omega) (by omega) (by omega) (by omega) (by omega) (by omega)) [0] H H .nil) H ?_
                  rintro _ _ ⟨_,⟨rfl,m66,hq67,rfl⟩,rfl⟩
                  have hp:=hq67.trans hp
                  refine O.oo 7 H ?_
                  refine O.sd 209 H (fun p69=>?_) (fun p69=>?_)
                  ·
                    refine O.oc 5 H ?_
                    refine J.cd H (fun p70=>?_) (fun p70=>?_)
                    ·
                      refine J.co 6 H ?_
                      refine O.l (Lo.ca C378 (ih m66 ((a+b) / 2) ((((a+b) / 2)+q)-x) b (by omega) (by omega) (by omega) (by omega) (by omega) (by omega)) [0] H H .nil) H ?_
                      rintro _ _ ⟨_,⟨rfl,m71,hq72,rfl⟩,rfl⟩
                      have hp:=hq72.trans hp
                      refine O.nil ?_
                      exact J.dn [] [0] H trivial H ⟨H,_,hp,H⟩
                    ·
                      refine J.skip ?_
                      exact J.dn [] [0] H trivial H ⟨H,_,hp,H⟩
                  ·
                    refine O.oc 7 H ?_
                    exact J.dn [] [0] H trivial H ⟨H,_,hp,H⟩
                ·
                  refine J.co 7 H ?_
                  refine O.sd 209 H (fun p74=>?_) (fun p74=>?_)
                  ·
                    refine O.oc 5 H ?_
                    refine J.cd H (fun p75=>?_) (fun p75=>?_)
                    ·
                      refine J.co 6 H ?_
                      refine O.l (Lo.ca C378 (ih l ((a+b) / 2) ((((a+b) / 2)+q)-x) b (by omega) (by omega) (by omega) (by omega) (by omega) (by omega)) [0] H H .nil) H ?_
                      rintro _ _ ⟨_,⟨rfl,m76,hq77,rfl⟩,rfl⟩
                      have hp:=hq77.trans hp
                      refine O.nil ?_
                      exact J.dn [] [0] H trivial H ⟨H,_,hp,H⟩
                    ·
                      refine J.skip ?_
                      exact J.dn [] [0] H trivial H ⟨H,_,hp,H⟩
                  ·
                    refine O.oc 7 H ?_
                    exact J.dn [] [0] H trivial H ⟨H,_,hp,H⟩
              ·
                refine O.oo 13 H ?_
                refine O.sd 209 H (fun p79=>?_) (fun p79=>?_)
                ·
                  refine O.oc 5 H ?_
                  refine J.cd H (fun p80=>?_) (fun p80=>?_)
                  ·
                    refine J.co 6 H ?_
                    refine O.l (Lo.ca C378 (ih l ((a+b) / 2) ((((a+b) / 2)+q)-x) b (by omega) (by omega) (by omega) (by omega) (by omega) (by omega)) [0] H H .nil) H ?_
                    rintro _ _ ⟨_,⟨rfl,m81,hq82,rfl⟩,rfl⟩
                    have hp:=hq82.trans hp
                    refine O.nil ?_
                    exact J.dn [] [0] H trivial H ⟨H,_,hp,H⟩
                  ·
                    refine J.skip ?_
                    exact J.dn [] [0] H trivial H ⟨H,_,hp,H⟩
                ·
                  refine O.oc 7 H ?_
                  exact J.dn [] [0] H trivial H ⟨H,_,hp,H⟩
          ·
            refine O.oo 14 H ?_
            refine O.sd 195 H (fun p84=>?_) (fun p84=>?_)
            ·
              refine O.oc 5 H ?_
              refine J.cd H (fun p85=>?_) (fun p85=>?_)
              ·
                refine J.co 6 H ?_
                refine O.l (Lo.ca C378 (ih l a x ((a+b) / 2) (by omega) (by omega) (by omega) (by omega) (by omega) (by omega)) [0] H H .nil) H ?_
                rintro _ _ ⟨_,⟨rfl,m86,hq87,rfl⟩,rfl⟩
                have hp:=hq87.trans hp
                refine O.oo 7 H ?_
                refine O.sd 209 H (fun p89=>?_) (fun p89=>?_)
                ·
                  refine O.oc 5 H ?_
                  refine J.cd H (fun p90=>?_) (fun p90=>?_)
                  ·
                    refine J.co 6 H ?_
                    refine O.l (Lo.ca C378 (ih m86 ((a+b) / 2) ((((a+b) / 2)+q)-x) b (by omega) (by omega) (by omega) (by omega) (by omega) (by omega)) [0] H H .nil) H ?_
                    rintro _ _ ⟨_,⟨rfl,m91,hq92,rfl⟩,rfl⟩
                    have hp:=hq92.trans hp
                    refine O.nil ?_
                    exact J.dn [] [0] H trivial H ⟨H,_,hp,H⟩
                  ·
                    refine J.skip ?_
                    exact J.dn [] [0] H trivial H ⟨H,_,hp,H⟩
                ·
                  refine O.oc 7 H ?_
                  exact J.dn [] [0] H trivial H ⟨H,_,hp,H⟩
              ·
                refine J.co 7 H ?_
                refine O.sd 209 H (fun p94=>?_) (fun p94=>?_)
                ·
                  refine O.oc 5 H ?_
                  refine J.cd H (fun p95=>?_) (fun p95=>?_)
                  ·
                    refine J.co 6 H ?_
                    refine O.l (Lo.ca C378 (ih l ((a+b) / 2) ((((a+b) / 2)+q)-x) b (by omega) (by omega) (by omega) (by omega) (by omega) (by omega)) [0] H H .nil) H ?_
                    rintro _ _ ⟨_,⟨rfl,m96,hq97,rfl⟩,rfl⟩
                    have hp:=hq97.trans hp
                    refine O.nil ?_
                    exact J.dn [] [0] H trivial H ⟨H,_,hp,H⟩
                  ·
                    refine J.skip ?_
                    exact J.dn [] [0] H trivial H ⟨H,_,hp,H⟩
                ·
                  refine O.oc 7 H ?_
                  exact J.dn [] [0] H trivial H ⟨H,_,hp,H⟩
            ·
              refine O.oo 13 H ?_
              refine O.sd 209 H (fun p99=>?_) (fun p99=>?_)
              ·
                refine O.oc 5 H ?_
                refine J.cd H (fun p100=>?_) (fun p100=>?_)
                ·
                  refine J.co 6 H ?_
                  refine O.l (Lo.ca C378 (ih l ((a+b) / 2) ((((a+b) / 2)+q)-x) b (by omega) (by omega) (by omega) (by omega) (by omega) (by omega)) [0] H H .nil) H ?_
                  rintro _ _ ⟨_,⟨rfl,m101,hq102,rfl⟩,rfl⟩
                  have hp:=hq102.trans hp
                  refine O.nil ?_
                  exact J.dn [] [0] H trivial H ⟨H,_,hp,H⟩
                ·
                  refine J.skip ?_
                  exact J.dn [] [0] H trivial H ⟨H,_,hp,H⟩
              ·
                refine O.oc 7 H ?_
                exact J.dn [] [0] H trivial H ⟨H,_,hp,H⟩
      ·
        refine J.co 12 H ?_
        refine O.p (Pu.sub' H H (by omega)) H ?_
        refine O.oc 4 H ?_
        refine J.lo (X:=Int×Int) (fun (x,y)=>a≤x∧x≤y∧y≤q) (fun (x,y)=>[(20,.int .i64 x),(21,.int .i64 y)]) (fun (x,y)=>[]) (fun (x,y)=>(y-x).toNat) ⟨a,q⟩ [0,1,2,3,4,18,19,22] [] [0] ⟨by omega,by omega,by omega⟩ ⟨H,H,trivial⟩ H H ?_
        rintro ⟨x,y⟩ ⟨hx0,hxy,hy1⟩
        refine J.cc 7 H ?_
        refine J.cd H (fun p104=>?_) (fun p104=>?_)
        ·
          refine J.co 6 H ?_
          refine O.p (Pu.add' H H (by omega)) H ?_
          refine O.p (Pu.conv U3 U377 H) H ?_
          refine O.p (Pu.shr1 H H H) H ?_
          refine O.p (Pu.to (Pu.conv U377 U3 H) (congrArg (Value.int .i64) (half (by omega) (by omega)))) H ?_
          refine O.oc 3 H ?_
          refine J.drawTail 11 Tryz.mixed (by kernel_rfl) ?_
          refine S.r 4 H ?_
          refine S.p (Pu.sub' H H (by omega)) H ?_
          obtain ⟨e105,he105⟩:=ex_at (l:=l) (i:=(((((a+b) / 2)+q)-1)-((x+y) / 2)).toNat) (by omega)
          refine S.q (Qt.ix U52 Z66 H (Src.row 0 H) he105 H (by omega)) H ?_
          refine S.q (Qt.lea A66 Z66 (Src.row 0 H) he105 0 H (by omega) H) H ?_
          refine S.r 2 H ?_
          obtain ⟨e106,he106⟩:=ex_at (l:=l) (i:=((x+y) / 2).toNat) (by omega)
          refine S.q (Qt.ix U52 Z66 H (Src.row 0 H) he106 H (by omega)) H ?_
          refine S.q (Qt.lea A66 Z66 (Src.row 0 H) he106 0 H (by omega) H) H ?_
          refine S.endO ?_
          refine O.l (Lo.cv call295 H H (rk_going e105 e106) [] H .nil) H ?_
          rintro _ _ ⟨_,⟨rfl,rfl⟩,rfl⟩
          refine O.oc 3 H ?_
          refine J.cond H (fun h108=>?_) (fun h108=>?_)
          ·
            have h109:(decide ((Nd.going e105 e106) < 0))=false:=not_flip h108
            have p110:=of_decide_eq_false h109
            refine J.co 2 H ?_
            refine O.p (Pu.add' H H (by omega)) H ?_
            refine O.oc 3 H ?_
            exact J.lq ⟨((x+y) / 2)+1,y⟩ [0,1,2,3,4,18,19,22] [] [0] ⟨by omega,by omega,by omega⟩ (by dsimp only;omega) ⟨H,H,trivial⟩ H H
          ·
            have h111:(decide ((Nd.going e105 e106) < 0))=true:=not_flip h108
            have p112:=of_decide_eq_true h111
            refine J.cc 5 H ?_
            exact J.lq ⟨x,(x+y) / 2⟩ [0,1,2,3,4,18,19,22] [] [0] ⟨by omega,by omega,by omega⟩ (by dsimp only;omega) ⟨H,H,trivial⟩ H H
        ·
          refine J.co 5 H ?_
          refine O.p (Pu.sub' H H (by omega)) H ?_
          refine O.oo 9 H ?_
          refine O.sd 181 H (fun p113=>?_) (fun p113=>?_)
          ·
            refine O.oc 5 H ?_
            refine J.cd H (fun p114=>?_) (fun p114=>?_)
            ·
              refine J.co 6 H ?_
              refine O.l (Lo.ca call389 (so_rot V l x q ((((a+b) / 2)+q)-x) (by omega) (by omega) (by omega) (by omega) (by omega)) [0] H H .nil) H ?_
              rintro _ _ ⟨_,⟨rfl,m115,hq116,rfl⟩,rfl⟩
              have hp:=hq116.trans hp
              refine O.oo 8 H ?_
              refine O.sd 195 H (fun p118=>?_) (fun p118=>?_)
              ·
                refine O.oc 5 H ?_
                refine J.cd H (fun p119=>?_) (fun p119=>?_)
                ·
                  refine J.co 6 H ?_
                  refine O.l (Lo.ca C378 (ih m115 a x ((a+b) / 2) (by first|omega|(simp only [List.length_append,List.length_nil];omega)|(have hn:=hp.length_eq;first|omega|(simp only [List.length_set];omega))) (by omega) (by omega) (by omega) (by first|omega|(simp only [List.length_append,List.length_nil];omega)|(have hn:=hp.length_eq;first|omega|(simp only [List.length_set];omega))) (by omega)) [0] H H .nil) H ?_
                  rintro _ _ ⟨_,⟨rfl,m120,hq121,rfl⟩,rfl⟩
                  have hp:=hq121.trans hp
                  refine O.oo 7 H ?_
                  refine O.sd 209 H (fun p123=>?_) (fun p123=>?_)
                  ·
                    refine O.oc 5 H ?_
                    refine J.cd H (fun p124=>?_) (fun p124=>?_)
                    ·
                      refine J.co 6 H ?_
                      refine O.l (Lo.ca C378 (ih m120 ((a+b) / 2) ((((a+b) / 2)+q)-x) b (by first|omega|(simp only [List.length_append,List.length_nil];omega)|(have hn:=hp.length_eq;first|omega|(simp only [List.length_set];omega))) (by omega) (by omega) (by omega) (by first|omega|(simp only [List.length_append,List.length_nil];omega)|(have hn:=hp.length_eq;first|omega|(simp only [List.length_set];omega))) (by omega)) [0] H H .nil) H ?_
                      rintro _ _ ⟨_,⟨rfl,m125,hq126,rfl⟩,rfl⟩
                      have hp:=hq126.trans hp
                      refine O.nil ?_
                      exact J.dn [] [0] H trivial H ⟨H,_,hp,H⟩
                    ·
                      refine J.skip ?_
                      exact J.dn [] [0] H trivial H ⟨H,_,hp,H⟩
                  ·
                    refine O.oc 7 H ?_
                    exact J.dn [] [0] H trivial H ⟨H,_,hp,H⟩
                ·
                  refine J.co 7 H ?_
                  refine O.sd 209 H (fun p128=>?_) (fun p128=>?_)
                  ·
                    refine O.oc 5 H ?_
                    refine J.cd H (fun p129=>?_) (fun p129=>?_)
                    ·
                      refine J.co 6 H ?_
                      refine O.l (Lo.ca C378 (ih m115 ((a+b) / 2) ((((a+b) / 2)+q)-x) b (by omega) (by omega) (by omega) (by omega) (by omega) (by omega)) [0] H H .nil) H ?_
                      rintro _ _ ⟨_,⟨rfl,m130,hq131,rfl⟩,rfl⟩
                      have hp:=hq131.trans hp
                      refine O.nil ?_
                      exact J.dn [] [0] H trivial H ⟨H,_,hp,H⟩
                    ·
                      refine J.skip ?_
                      exact J.dn [] [0] H trivial H ⟨H,_,hp,H⟩
                  ·
                    refine O.oc 7 H ?_
                    exact J.dn [] [0] H trivial H ⟨H,_,hp,H⟩
              ·
                refine O.oo 13 H ?_
                refine O.sd 209 H (fun p133=>?_) (fun p133=>?_)
                ·
                  refine O.oc 5 H ?_
                  refine J.cd H (fun p134=>?_) (fun p134=>?_)
                  ·
                    refine J.co 6 H ?_
                    refine O.l (Lo.ca C378 (ih m115 ((a+b) / 2) ((((a+b) / 2)+q)-x) b (by first|omega|(simp only [List.length_append,List.length_nil];omega)|(have hn:=hp.length_eq;first|omega|(simp only [List.length_set];omega))) (by omega) (by omega) (by omega) (by first|omega|(simp only [List.length_append,List.length_nil];omega)|(have hn:=hp.length_eq;first|omega|(simp only [List.length_set];omega))) (by omega)) [0] H H .nil) H ?_
                    rintro _ _ ⟨_,⟨rfl,m135,hq136,rfl⟩,rfl⟩
                    have hp:=hq136.trans hp
                    refine O.nil ?_
                    exact J.dn [] [0] H trivial H ⟨H,_,hp,H⟩
                  ·
                    refine J.skip ?_
                    exact J.dn [] [0] H trivial H ⟨H,_,hp,H⟩
                ·
                  refine O.oc 7 H ?_
                  exact J.dn [] [0] H trivial H ⟨H,_,hp,H⟩
            ·
              refine J.co 8 H ?_
              refine O.sd 195 H (fun p138=>?_) (fun p138=>?_)
              ·
                refine O.oc 5 H ?_
                refine J.cd H (fun p139=>?_) (fun p139=>?_)
                ·
                  refine J.co 6 H ?_
                  refine O.l (Lo.ca C378 (ih l a x ((a+b) / 2) (by omega) (by omega) (by omega) (by omega) (by omega) (by omega)) [0] H H .nil) H ?_
                  rintro _ _ ⟨_,⟨rfl,m140,hq141,rfl⟩,rfl⟩
                  have hp:=hq141.trans hp
                  refine O.oo 7 H ?_
                  refine O.sd 209 H (fun p143=>?_) (fun p143=>?_)
                  ·
                    refine O.oc 5 H ?_
                    refine J.cd H (fun p144=>?_) (fun p144=>?_)
                    ·
                      refine J.co 6 H ?_
                      refine O.l (Lo.ca C378 (ih m140 ((a+b) / 2) ((((a+b) / 2)+q)-x) b (by omega) (by omega) (by omega) (by omega) (by omega) (by omega)) [0] H H .nil) H ?_
                      rintro _ _ ⟨_,⟨rfl,m145,hq146,rfl⟩,rfl⟩
                      have hp:=hq146.trans hp
                      refine O.nil ?_
                      exact J.dn [] [0] H trivial H ⟨H,_,hp,H⟩
                    ·
                      refine J.skip ?_
                      exact J.dn [] [0] H trivial H ⟨H,_,hp,H⟩
                  ·
                    refine O.oc 7 H ?_
                    exact J.dn [] [0] H trivial H ⟨H,_,hp,H⟩
                ·
                  refine J.co 7 H ?_
                  refine O.sd 209 H (fun p148=>?_) (fun p148=>?_)
                  ·
                    refine O.oc 5 H ?_
                    refine J.cd H (fun p149=>?_) (fun p149=>?_)
                    ·
                      refine J.co 6 H ?_
                      refine O.l (Lo.ca C378 (ih l ((a+b) / 2) ((((a+b) / 2)+q)-x) b (by omega) (by omega) (by omega) (by omega) (by omega) (by omega)) [0] H H .nil) H ?_
                      rintro _ _ ⟨_,⟨rfl,m150,hq151,rfl⟩,rfl⟩
                      have hp:=hq151.trans hp
                      refine O.nil ?_
                      exact J.dn [] [0] H trivial H ⟨H,_,hp,H⟩
                    ·
                      refine J.skip ?_
                      exact J.dn [] [0] H trivial H ⟨H,_,hp,H⟩
                  ·
                    refine O.oc 7 H ?_
                    exact J.dn [] [0] H trivial H ⟨H,_,hp,H⟩
              ·
                refine O.oo 13 H ?_
                refine O.sd 209 H (fun p153=>?_) (fun p153=>?_)
                ·
                  refine O.oc 5 H ?_
                  refine J.cd H (fun p154=>?_) (fun p154=>?_)
                  ·
                    refine J.co 6 H ?_
                    refine O.l (Lo.ca C378 (ih l ((a+b) / 2) ((((a+b) / 2)+q)-x) b (by omega) (by omega) (by omega) (by omega) (by omega) (by omega)) [0] H H .nil) H ?_
                    rintro _ _ ⟨_,⟨rfl,m155,hq156,rfl⟩,rfl⟩
                    have hp:=hq156.trans hp
                    refine O.nil ?_
                    exact J.dn [] [0] H trivial H ⟨H,_,hp,H⟩
                  ·
                    refine J.skip ?_
                    exact J.dn [] [0] H trivial H ⟨H,_,hp,H⟩
                ·
                  refine O.oc 7 H ?_
                  exact J.dn [] [0] H trivial H ⟨H,_,hp,H⟩
          ·
            refine O.oo 14 H ?_
            refine O.sd 195 H (fun p158=>?_) (fun p158=>?_)
            ·
              refine O.oc 5 H ?_
              refine J.cd H (fun p159=>?_) (fun p159=>?_)
              ·
                refine J.co 6 H ?_
                refine O.l (Lo.ca C378 (ih l a x ((a+b) / 2) (by omega) (by omega) (by omega) (by omega) (by omega) (by omega)) [0] H H .nil) H ?_
                rintro _ _ ⟨_,⟨rfl,m160,hq161,rfl⟩,rfl⟩
                have hp:=hq161.trans hp
                refine O.oo 7 H ?_
                refine O.sd 209 H (fun p163=>?_) (fun p163=>?_)
                ·
                  refine O.oc 5 H ?_
                  refine J.cd H (fun p164=>?_) (fun p164=>?_)
                  ·
                    refine J.co 6 H ?_
                    refine O.l (Lo.ca C378 (ih m160 ((a+b) / 2) ((((a+b) / 2)+q)-x) b (by omega) (by omega) (by omega) (by omega) (by omega) (by omega)) [0] H H .nil) H ?_
                    rintro _ _ ⟨_,⟨rfl,m165,hq166,rfl⟩,rfl⟩
                    have hp:=hq166.trans hp
                    refine O.nil ?_
                    exact J.dn [] [0] H trivial H ⟨H,_,hp,H⟩
                  ·
                    refine J.skip ?_
                    exact J.dn [] [0] H trivial H ⟨H,_,hp,H⟩
                ·
                  refine O.oc 7 H ?_
                  exact J.dn [] [0] H trivial H ⟨H,_,hp,H⟩
              ·
                refine J.co 7 H ?_
                refine O.sd 209 H (fun p168=>?_) (fun p168=>?_)
                ·
                  refine O.oc 5 H ?_
                  refine J.cd H (fun p169=>?_) (fun p169=>?_)
                  ·
                    refine J.co 6 H ?_
                    refine O.l (Lo.ca C378 (ih l ((a+b) / 2) ((((a+b) / 2)+q)-x) b (by omega) (by omega) (by omega) (by omega) (by omega) (by omega)) [0] H H .nil) H ?_
                    rintro _ _ ⟨_,⟨rfl,m170,hq171,rfl⟩,rfl⟩
                    have hp:=hq171.trans hp
                    refine O.nil ?_
                    exact J.dn [] [0] H trivial H ⟨H,_,hp,H⟩
                  ·
                    refine J.skip ?_
                    exact J.dn [] [0] H trivial H ⟨H,_,hp,H⟩
                ·
                  refine O.oc 7 H ?_
                  exact J.dn [] [0] H trivial H ⟨H,_,hp,H⟩
            ·
              refine O.oo 13 H ?_
              refine O.sd 209 H (fun p173=>?_) (fun p173=>?_)
              ·
                refine O.oc 5 H ?_
                refine J.cd H (fun p174=>?_) (fun p174=>?_)
                ·
                  refine J.co 6 H ?_
                  refine O.l (Lo.ca C378 (ih l ((a+b) / 2) ((((a+b) / 2)+q)-x) b (by omega) (by omega) (by omega) (by omega) (by omega) (by omega)) [0] H H .nil) H ?_
                  rintro _ _ ⟨_,⟨rfl,m175,hq176,rfl⟩,rfl⟩
                  have hp:=hq176.trans hp
                  refine O.nil ?_
                  exact J.dn [] [0] H trivial H ⟨H,_,hp,H⟩
                ·
                  refine J.skip ?_
                  exact J.dn [] [0] H trivial H ⟨H,_,hp,H⟩
              ·
                refine O.oc 7 H ?_
                exact J.dn [] [0] H trivial H ⟨H,_,hp,H⟩
theorem so_stb (V:Value) (l:List Im) (n:Int) (hl:l.length≤100000) (hn:n=l.length):Tri prog 342 #[V,.int .i64 n,.func (.func 295) #[] #[]] [] [row V 66 7 (l.map Im.cells)] (fun v L'=>v=.tuple #[]∧∃ m:List Im,m.Perm l∧L'=[row V 66 7 (m.map Im.cells)]):=by
 have hp:l.Perm l:=List.Perm.refl l
 refine Tri.en func342 H ntmps342 H fun w0=>J.cc 12 H ?_
 refine J.lo (X:=Int×Int×List Im) (fun (a,b,m)=>0≤a∧b=a+20∧a≤n∧m.Perm l) (fun (a,b,m)=>[(7,.int .i64 a),(8,.int .i64 b)]) (fun (a,b,m)=>[row V 66 7 (m.map Im.cells)]) (fun (a,b,m)=>(n+20-b).toNat) ⟨0,20,l⟩ [0,1,2,6] [0] [] ⟨by omega,by omega,by omega,hp⟩ ⟨H,H,trivial⟩ H H ?_
 rintro ⟨a,b,m⟩ ⟨ha,hb,han,hp⟩
 refine J.cc 7 H ?_
 refine J.cd H (fun p1=>?_) (fun p1=>?_)
 ·
  refine J.co 8 H<|O.l (Lo.ca call377 (so_ins V m a b (by first|omega|(simp only [List.length_append,List.length_nil];omega)|(have hn:=hp.length_eq;first|omega|(simp only [List.length_set];omega))) (by first|omega|(simp only [List.length_append,List.length_nil];omega)|(have hn:=hp.length_eq;first|omega|(simp only [List.length_set];omega))) (by first|omega|(simp only [List.length_append,List.length_nil];omega)|(have hn:=hp.length_eq;first|omega|(simp only [List.length_set];omega))) (by first|omega|(simp only [List.length_append,List.length_nil];omega)|(have hn:=hp.length_eq;first|omega|(simp only [List.length_set];omega)))) [0] H H .nil) H ?_
  rintro _ _ ⟨_,⟨rfl,m2,hq3,rfl⟩,rfl⟩
  have hp:=hq3.trans hp
  refine O.oo 9 H<|O.p (Pu.add' H H (by omega)) H<|O.oc 3 H ?_
  exact J.lq ⟨b,b+20,m2⟩ [0,1,2,6] [0] [] ⟨by omega,by omega,by omega,hp⟩ (by dsimp only;omega) ⟨H,H,trivial⟩ H H
 refine J.co 7 H<|O.l (Lo.ca call377 (so_ins V m a n (by first|omega|(simp only [List.length_append,List.length_nil];omega)|(have hn:=hp.length_eq;first|omega|(simp only [List.length_set];omega))) (by first|omega|(simp only [List.length_append,List.length_nil];omega)|(have hn:=hp.length_eq;first|omega|(simp only [List.length_set];omega))) (by first|omega|(simp only [List.length_append,List.length_nil];omega)|(have hn:=hp.length_eq;first|omega|(simp only [List.length_set];omega))) (by first|omega|(simp only [List.length_append,List.length_nil];omega)|(have hn:=hp.length_eq;first|omega|(simp only [List.length_set];omega)))) [0] H H .nil) H ?_
 rintro _ _ ⟨_,⟨rfl,m5,hq6,rfl⟩,rfl⟩
 have hp:=hq6.trans hp
 refine O.oc 2 H ?_
 refine J.lo (X:=Int×List Im) (fun (bs,m)=>1≤bs∧m.Perm l) (fun (bs,m)=>[(6,.int .i64 bs)]) (fun (bs,m)=>[row V 66 7 (m.map Im.cells)]) (fun (bs,m)=>(n-bs).toNat) ⟨20,m5⟩ [0,1,2] [0] [] ⟨by omega,hp⟩ ⟨H,trivial⟩ H H ?_
 rintro ⟨bs,m⟩ ⟨hbs,hp⟩
 refine J.cc 7 H ?_
 refine J.cd H (fun p8=>?_) (fun p8=>?_)
 ·
  refine J.co 5 H<|O.p (Pu.mul' H H (by omega)) H<|O.oc 5 H ?_
  refine J.lo (X:=Int×Int×List Im) (fun (a,b,m)=>0≤a∧b=a+2*bs∧a≤n∧m.Perm l) (fun (a,b,m)=>[(7,.int .i64 a),(8,.int .i64 b)]) (fun (a,b,m)=>[row V 66 7 (m.map Im.cells)]) (fun (a,b,m)=>(n+2*bs-b).toNat) ⟨0,2*bs,m⟩ [0,1,2,6] [0] [] ⟨by omega,by omega,by omega,hp⟩ ⟨H,H,trivial⟩ H H ?_
  rintro ⟨a,b,m⟩ ⟨ha,hb,han,hp⟩
  refine J.cc 7 H ?_
  refine J.cd H (fun p9=>?_) (fun p9=>?_)
  ·
   refine J.co 8 H<|O.p (Pu.add' H H (by omega)) H<|O.oo 2 H<|O.l (Lo.ca C378 (so_mrg (b-a+1).toNat V m a (a+bs) b (by first|omega|(simp only [List.length_append,List.length_nil];omega)|(have hn:=hp.length_eq;first|omega|(simp only [List.length_set];omega))) (by first|omega|(simp only [List.length_append,List.length_nil];omega)|(have hn:=hp.length_eq;first|omega|(simp only [List.length_set];omega))) (by first|omega|(simp only [List.length_append,List.length_nil];omega)|(have hn:=hp.length_eq;first|omega|(simp only [List.length_set];omega))) (by first|omega|(simp only [List.length_append,List.length_nil];omega)|(have hn:=hp.length_eq;first|omega|(simp only [List.length_set];omega))) (by first|omega|(simp only [List.length_append,List.length_nil];omega)|(have hn:=hp.length_eq;first|omega|(simp only [List.length_set];omega))) (by first|omega|(simp only [List.length_append,List.length_nil];omega)|(have hn:=hp.length_eq;first|omega|(simp only [List.length_set];omega)))) [0] H H .nil) H ?_
   rintro _ _ ⟨_,⟨rfl,m10,hq11,rfl⟩,rfl⟩
   have hp:=hq11.trans hp
   refine O.oo 9 H<|O.p (Pu.mul' H H (by omega)) H<|O.p (Pu.add' H H (by omega)) H<|O.oc 3 H ?_
   exact J.lq ⟨b,b+(2*bs),m10⟩ [0,1,2,6] [0] [] ⟨by omega,by omega,by omega,hp⟩ (by dsimp only;omega) ⟨H,H,trivial⟩ H H
  refine J.co 6 H<|O.p (Pu.add' H H (by omega)) H<|O.oc 8 H ?_
  refine J.cd H (fun p13=>?_) (fun p13=>?_)
  ·
   refine J.co 6 H<|O.l (Lo.ca C378 (so_mrg (n-a+1).toNat V m a (a+bs) n (by first|omega|(simp only [List.length_append,List.length_nil];omega)|(have hn:=hp.length_eq;first|omega|(simp only [List.length_set];omega))) (by first|omega|(simp only [List.length_append,List.length_nil];omega)|(have hn:=hp.length_eq;first|omega|(simp only [List.length_set];omega))) (by first|omega|(simp only [List.length_append,List.length_nil];omega)|(have hn:=hp.length_eq;first|omega|(simp only [List.length_set];omega))) (by first|omega|(simp only [List.length_append,List.length_nil];omega)|(have hn:=hp.length_eq;first|omega|(simp only [List.length_set];omega))) (by first|omega|(simp only [List.length_append,List.length_nil];omega)|(have hn:=hp.length_eq;first|omega|(simp only [List.length_set];omega))) (by first|omega|(simp only [List.length_append,List.length_nil];omega)|(have hn:=hp.length_eq;first|omega|(simp only [List.length_set];omega)))) [0] H H .nil) H ?_
   rintro _ _ ⟨_,⟨rfl,m14,hq15,rfl⟩,rfl⟩
   have hp:=hq15.trans hp
   refine O.oo 3 H<|O.p (Pu.mul' H H (by omega)) H<|O.oc 3 H ?_
   exact J.lq ⟨bs*2,m14⟩ [0,1,2] [0] [] ⟨by omega,hp⟩ (by dsimp only;omega) ⟨H,trivial⟩ H H
  refine J.co 3 H<|O.p (Pu.mul' H H (by omega)) H<|O.oc 3 H ?_
  exact J.lq ⟨bs*2,m⟩ [0,1,2] [0] [] ⟨by omega,hp⟩ (by dsimp only;omega) ⟨H,trivial⟩ H H
 refine J.cc 1 H ?_
 exact J.dn [] [0] H trivial H ⟨H,_,hp,H⟩
theorem so_Stable (V:Value) (l:List Im) (hl:l.length≤100000):Tri prog 294 #[V,.func (.func 295) #[] #[]] [] [row V 66 7 (l.map Im.cells)] (fun v L'=>v=.tuple #[]∧∃ m:List Im,m.Perm l∧L'=[row V 66 7 (m.map Im.cells)]):=by
 have hp:l.Perm l:=List.Perm.refl l
 refine Tri.en func294 H ntmps294 H fun w0=>J.co 3 H<|O.q (Qt.lenM U52 H (Src.row 0 H)) H<|O.oo 1 H<|O.l (Lo.ca call342 (so_stb V l (l.length:Int) (by omega) (by omega)) [0] H H .nil) H ?_
 rintro _ _ ⟨_,⟨rfl,m1,hq2,rfl⟩,rfl⟩
 have hp:=hq2.trans hp
 refine O.nil ?_
 exact J.dn [] [0] H trivial H ⟨H,_,hp,H⟩
theorem rk_Sort (lv:Value) (l:List Im) (hl:l.length≤100000):Tri prog 220 #[lv] [rd lv 7 (l.map Im.cells)] [] (fun v L'=>∃ m:List Im,m.Perm l∧L'=[row v 66 7 (m.map Im.cells)]):=by
 have hp:l.Perm l:=List.Perm.refl l
 refine Tri.en func220 H ntmps220 H fun w0=>J.co 6 H<|O.l (Lo.buildE Im.cells U52 Z66) H ?_
 rintro V1 _ rfl
 refine O.oo 1 H<|O.l (Lo.am 0 N52 info66 H H H H H (Src.ro 0 H) Im.one (by first|omega|(simp only [List.length_append,List.length_nil];omega)) (by first|omega|(simp only [List.length_append,List.length_nil];omega))) H ?_
 rintro V2 _ rfl
 refine O.oo 5 H<|O.l (Lo.ca call294 (so_Stable V2 (([]:List Im)++l)  (by first|omega|(simp only [List.length_append,List.length_nil];omega)|(have hn:=hp.length_eq;first|omega|(simp only [List.length_set];omega)))) [0] H H .nil) H ?_
 rintro _ _ ⟨_,⟨rfl,m3,hq4,rfl⟩,rfl⟩
 have hp:=hq4.trans hp
 refine O.oc 6 H ?_
 exact J.r1 [0] H H H ⟨_,(by simpa using hp),H⟩
end Go.Proofs.YtohjlkjhpibkmaaGreatDoor
namespace Go.LK
open Go Go.RowKit
def me {α:Type} (b:Nat) (f:α→Value) (m:List (Int×α)) (key st:Int):Sp where
  foot:=[b]
  holds w:=∃ (arr:Array MapEntry) (clock i:Nat),w.heap[b]?=some (.map arr clock)∧arr.findIdx? (fun e=>(e.born:Int) == st)=some i∧∀ u,MapI f (putI m key u) (arr.modify i fun e=>{ e with val:=f u }) clock
  lt w h k hk:=by
    obtain ⟨arr,clock,i,h1,_⟩:=h
    simp at hk;subst hk
    exact (Array.getElem?_eq_some_iff.1 h1).1
  loc w w' hw h:=by
    obtain ⟨arr,clock,i,h1,h2⟩:=h
    exact ⟨arr,clock,i,by rw [hw b (by simp)];exact h1,h2⟩
section
variable {α:Type} {f:α→Value} {m:List (Int×α)} {c:Cx} {E:Env} {L:List Sp} {ty T k e:TypeId} {x y z:Operand} {b:Nat}
theorem run_entI {P:Program} {w:World} {key:Int} {zv:Value} (hT:P.underlying T=some (.map k e)) (hk:P.underlying k=some (.int .i64)) (hz:∀ w,(zeroValue e).run P w=.ok zv w) (hm:(mi b f m).holds w) :
    ∃ (w':World) (u0:Value) (st:Int),(Instr.mapEntry T (.map (some b)) (.int .i64 key)).run P w=.ok (.tuple #[u0,.int .i64 st]) w'∧Frame w [b] w'∧(me b f m key st).holds w':=by
  obtain ⟨arr,clock,h1,hM⟩:=hm
  have hf:=hM.find hk w key
  have hg:(getObj b).run P w=.ok (.map arr clock) w:=by simp [getObj,Sem.run,h1]
  have hc:∀ em,(Instr.checkKey em 10000 k (.int .i64 key)).run P w=.ok () w:=fun em=>(KT.int hk).check w em [key] rfl
  cases hat:atI m key 0 with
  | none =>
    have hp:∀ u,MapI f (putI m key u) (arr.push { key:=.int .i64 key,val:=f u,born:=clock }) (clock+1):=fun u=>by
      have hp:=hM.put key u
      rw [hat] at hp;exact hp
    have hidx:(arr.push { key:=.int .i64 key,val:=zv,born:=clock }).findIdx? (fun e=>(e.born:Int) == (clock:Int))=some arr.size:=by
      rw [Go.WideElems.findIdx_arr]
      exact Go.WideElems.findIdx_born (l:=(arr.push { key:=.int .i64 key,val:=zv,born:=clock }).toList) (j:=arr.size) (e0:={ key:=.int .i64 key,val:=zv,born:=clock }) (by
        simp only [Array.toList_push,List.map_append,List.map_cons,List.map_nil]
        refine List.nodup_append.2 ⟨hM.born,by simp,fun a ha c' hc' e1=>?_⟩
        simp only [List.mem_singleton] at hc'
        obtain ⟨x,hx,rfl⟩:=List.mem_map.1 ha
        have:=hM.old x hx
        omega) (by simp)
    refine ⟨_,zv,(clock:Int),?_,frame_set w b (.map (arr.push { key:=.int .i64 key,val:=zv,born:=clock }) (clock+1)),⟨_,_,_,heap_set h1,hidx,fun u=>?_⟩⟩
    · simp only [Instr.mapEntry,Sem.run_bind,run_underlying hT,Result.andThen_ok,hg,hc,hf,hat,Option.map_none,run_setObjB h1,hz]
      rfl
    · have hmod:(arr.push { key:=.int .i64 key,val:=zv,born:=clock:MapEntry }).modify arr.size (fun e=>{ e with val:=f u })=arr.push { key:=.int .i64 key,val:=f u,born:=clock }:=by
        apply Array.ext'
        rw [Array.toList_modify,Array.toList_push,Array.toList_push,←Array.length_toList,Go.WideElems.modify_last]
      rw [hmod];exact hp u
  | some p =>
    obtain ⟨j,v⟩:=p
    have hp:∀ u,j < arr.size∧((arr[j]?).map (·.key))=some (.int .i64 key)∧MapI f (putI m key u) (arr.modify j fun e=>{ e with key:=.int .i64 key,val:=f u }) clock:=fun u=>by
      have hp:=hM.put key u
      rw [hat] at hp;exact hp
    obtain ⟨hja,hkey,_⟩:=hp v
    obtain ⟨e0,he0⟩:∃ e0,arr[j]?=some e0:=⟨_,Array.getElem?_eq_getElem hja⟩
    have he0k:e0.key=.int .i64 key:=by rw [he0] at hkey;simpa using hkey
    have hst:(Instr.keyThatStays ((some e0.key).getD (.int .i64 key)) (.int .i64 key)).run P w=.ok (.int .i64 key) w:=by
      rw [he0k]
      simp [Instr.keyThatStays,Instr.sameBits]
    have hl0:arr.toList[j]?=some e0:=by simpa using he0
    have hsame:(arr.modify j fun e=>{ e with key:=.int .i64 key })=arr:=by
      apply Array.ext'
      rw [Array.toList_modify,Go.ChangeMaps.modify_eq_set _ _ _ _ hl0]
      have:({ e0 with key:=.int .i64 key }:MapEntry)=e0:=by rw [←he0k]
      rw [this]
      exact Go.WideElems.set_self _ _ _ hl0
    have hidx:arr.findIdx? (fun e=>(e.born:Int) == ((e0.born:Nat):Int))=some j:=by
      rw [Go.WideElems.findIdx_arr]
      exact Go.WideElems.findIdx_born hM.born hl0
    refine ⟨_,f v,(e0.born:Int),?_,frame_set w b (.map arr clock),⟨_,_,_,heap_set h1,hidx,fun u=>?_⟩⟩
    · simp only [Instr.mapEntry,Sem.run_bind,run_underlying hT,Result.andThen_ok,hg,hc,hf,hat,Option.map_some,hst,run_setObjB h1,hsame,he0]
      rfl
    · have hmod:arr.modify j (fun e=>{ e with val:=f u })=arr.modify j (fun e=>{ e with key:=.int .i64 key,val:=f u }):=by
        apply Array.ext'
        rw [Array.toList_modify,Array.toList_modify,Go.ChangeMaps.modify_eq_set _ _ _ _ hl0,Go.ChangeMaps.modify_eq_set _ _ _ _ hl0,←he0k]
      rw [hmod];exact (hp u).2.2
theorem Lo.mapEnt {key:Int} {zv:Value} (i:Nat) (hT:c.P.underlying T=some (.map k e)) (hk:c.P.underlying k=some (.int .i64)) (hz:∀ w,(zeroValue e).run c.P w=.ok zv w) (hx:ev E x=some (.map (some b))) (hy:ev E y=some (.int .i64 key)) (hi:L[i]?=some (mi b f m)) :
    Lo c E L (.mapEntry T x y) ty fun v L'=>∃ u0 st,v=.tuple #[u0,.int .i64 st]∧L'=L.set i (me b f m key st):=fun _ a w ha hst d pos af g K Q hK=>by
  obtain ⟨w',u0,st,h1,h2,h3⟩:=run_entI (key:=key) hT hk hz (hst.at_ _ (List.mem_of_getElem? hi))
  exact wp_loud (v:=.tuple #[u0,.int .i64 st]) (w':=w') (by simp [execOp,ha.ev hx,ha.ev hy,h1]) (hK _ _ _ ⟨u0,st,rfl,rfl⟩ (hst.set hi (by simpa [mi] using h2) h3 (by simp [me,mi])))
theorem Lo.entSt {key st:Int} {u:α} (i:Nat) (hx:ev E x=some (.map (some b))) (hy:ev E y=some (.int .i64 st)) (hz:ev E z=some (f u)) (hi:L[i]?=some (me b f m key st)) :
    Lo c E L (.entryStore T x y z) ty fun _ L'=>L'=L.set i (mi b f (putI m key u)):=fun _ a w ha hst d pos af g K Q hK=>by
  obtain ⟨arr,clock,j,h1,hj,hM⟩:=hst.at_ _ (List.mem_of_getElem? hi)
  have hg:(getObj b).run c.P w=.ok (.map arr clock) w:=by simp [getObj,Sem.run,h1]
  have h2:(Instr.entryStore T (.map (some b)) (.int .i64 st) (f u)).run c.P w=.ok () { w with heap:=w.heap.setIfInBounds b (.map (arr.modify j fun e=>{ e with val:=f u }) clock) }:=by
    simp [Instr.entryStore,hg,asInt,asIntOf,hj,run_setObjB h1,Result.andThen]
  exact wp_loud0 (w':={ w with heap:=w.heap.setIfInBounds b (.map (arr.modify j fun e=>{ e with val:=f u }) clock) }) (by simp [execOp,ha.ev hx,ha.ev hy,ha.ev hz,h2]) (hK _ _ _ rfl (hst.set hi (by simpa [me] using frame_set w b _) ⟨_,clock,heap_set h1,hM u⟩ (by simp [me,mi])))
end
end Go.LK
namespace Go.Proofs.YtohjlkjhpibkmaaGreatDoor
open Go Go.LK Go.Proofs.Tryz
set_option maxRecDepth 100000
set_option maxHeartbeats 4000000
theorem pi_set (p b:Nat) (V:Value) (w:Int) (t:List Im) (m:List (Int×Int)) (i:Nat) (x:Im) (ht:t.length≤100000) (hi:i < t.length):Tri prog 316 #[.pointer (some ⟨p,0,none⟩),.int .i64 (i:Int),.agg #[.int .i64 x.id,.int .i64 x.level,.int .i64 x.from_,.int .i64 x.deadline,.int .i64 x.budget,.int .i64 x.since,.int .i64 x.seq]] [] [var p [.map (some b),.int .i64 w,V] 294,row V 66 7 (t.map Im.cells),mi b (Value.int .i64) m] (fun v L'=>v=.tuple #[]∧L'=[var p [.map (some b),.int .i64 w,V] 294,row V 66 7 ((t.set i x).map Im.cells),mi b (Value.int .i64) (putI m x.id i)]):=by
 refine Tri.en func316 H ntmps316 H fun w0=>J.co 2 H<|O.l (Lo.bx H H) H ?_
 rintro _ _ ⟨g1,rfl,rfl⟩
 refine O.nil<|J.drawA Tryz.mixed ?_
 refine A.edge 15 11 H ?_ ?_
 ·
  refine A.mx [(0,false),(1,false),(2,false),(3,false),(4,false),(5,false),(6,false),(7,false),(8,false),(9,false),(10,false),(11,false),(12,false),(13,false),(14,false),(15,true),(16,true),(17,false),(18,true)] [0,1,2] (by kernel_rfl) H<|Mx.r 3 H<|Mx.q H (Qt.lv 1 A52 H H H) H<|Mx.r 5 H<|Mx.q H (Qt.lv 1 A178 H H H) H<|Mx.r 1 H<|Mx.q H (Qt.lv 0 A3 H H H) H<|Mx.q H (Qt.lva 0 A66 Z66 H H H) H<|Mx.r 1 H ?_
  obtain ⟨e2,he2⟩:=ex_at (l:=t) (i:=i) (by omega)
  refine Mx.q H (Qt.ix U52 Z66 H (Src.row 2 H) he2 H (by rfl)) H<|Mx.l0 H (Lo.storeM 2 (j:=i) (off:=0) (vs:=[.int .i64 x.id,.int .i64 x.level,.int .i64 x.from_,.int .i64 x.deadline,.int .i64 x.budget,.int .i64 x.since,.int .i64 x.seq]) (e:=[.int .i64 e2.id,.int .i64 e2.level,.int .i64 e2.from_,.int .i64 e2.deadline,.int .i64 e2.budget,.int .i64 e2.since,.int .i64 e2.seq]) (⟨x.id,x.level,x.from_,x.deadline,x.budget,x.since,x.seq⟩) H H H H (by omega) he2 H Z66 H H H H H) ?_
  rintro _ _ rfl
  refine MxK.al [0,1,2] H (by kernel_rfl)<|Mx.l H (Lo.mapEnt 3 N178 N3 Y3 H H H) H ?_
  rintro _ _ ⟨u4,x5,rfl,rfl⟩
  refine MxK.al [0,1,2] H (by kernel_rfl)<|Mx.r 1 H<|Mx.l0 H (Lo.entSt (u:=(i:Int)) 3 H H H H) ?_
  rintro _ _ rfl
  refine MxK.al [0,1,2] H (by kernel_rfl)<|Mx.nil ?_
  exact J.dn [] [1,2,3] H trivial H ⟨H,H⟩
 refine A.mx [(0,false),(1,false),(2,false),(3,false),(4,false),(5,false),(6,false),(7,false),(8,false),(9,false),(10,false),(12,false),(13,false),(14,false),(15,true),(11,false),(16,true),(17,false),(18,true)] [0,1,2] (by kernel_rfl) H<|Mx.r 3 H<|Mx.q H (Qt.lv 1 A52 H H H) H<|Mx.r 5 H<|Mx.q H (Qt.lv 1 A178 H H H) H<|Mx.r 1 H<|Mx.q H (Qt.lva 0 A66 Z66 H H H) H<|Mx.r 1 H ?_
 obtain ⟨e6,he6⟩:=ex_at (l:=t) (i:=i) (by omega)
 refine Mx.q H (Qt.ix U52 Z66 H (Src.row 2 H) he6 H (by rfl)) H<|Mx.l0 H (Lo.storeM 2 (j:=i) (off:=0) (vs:=[.int .i64 x.id,.int .i64 x.level,.int .i64 x.from_,.int .i64 x.deadline,.int .i64 x.budget,.int .i64 x.since,.int .i64 x.seq]) (e:=[.int .i64 e6.id,.int .i64 e6.level,.int .i64 e6.from_,.int .i64 e6.deadline,.int .i64 e6.budget,.int .i64 e6.since,.int .i64 e6.seq]) (⟨x.id,x.level,x.from_,x.deadline,x.budget,x.since,x.seq⟩) H H H H (by omega) he6 H Z66 H H H H H) ?_
 rintro _ _ rfl
 refine MxK.al [0,1,2] H (by kernel_rfl)<|Mx.q H (Qt.lv 0 A3 H H H) H<|Mx.l H (Lo.mapEnt 3 N178 N3 Y3 H H H) H ?_
 rintro _ _ ⟨u8,x9,rfl,rfl⟩
 refine MxK.al [0,1,2] H (by kernel_rfl)<|Mx.r 1 H<|Mx.l0 H (Lo.entSt (u:=(i:Int)) 3 H H H H) ?_
 rintro _ _ rfl
 refine MxK.al [0,1,2] H (by kernel_rfl)<|Mx.nil ?_
 exact J.dn [] [1,2,3] H trivial H ⟨H,H⟩
theorem pi_swap (p b:Nat) (V:Value) (w:Int) (t:List Im) (m:List (Int×Int)) (i k:Nat) (ht:t.length≤100000) (hi:i < t.length) (hkk:k < t.length) (hk:Nd.AtOk t m):Tri prog 352 #[.pointer (some ⟨p,0,none⟩),.int .i64 (i:Int),.int .i64 (k:Int)] [] [var p [.map (some b),.int .i64 w,V] 294,row V 66 7 (t.map Im.cells),mi b (Value.int .i64) m] (fun v L'=>v=.tuple #[]∧∃ t' m',t'.Perm t∧Nd.AtOk t' m'∧(∀ x,t[i]?=some x→t'[k]?=some x)∧L'=[var p [.map (some b),.int .i64 w,V] 294,row V 66 7 (t'.map Im.cells),mi b (Value.int .i64) m']):=by
 refine Tri.en func352 H ntmps352 H fun w0=>J.seq<|J.drawA Tryz.mixed ?_
 refine A.edge 14 15 H ?_ ?_
 ·
  refine A.mx [(0,false),(1,false),(2,false),(3,false),(4,false),(5,false),(6,false),(7,false),(8,false),(9,false),(10,false),(11,false),(12,false),(13,false),(15,true),(14,true),(16,true),(17,true)] [0,1] (by kernel_rfl) H<|Mx.r 3 H<|Mx.q H (Qt.lv 0 A52 H H H) H<|Mx.r 1 H ?_
  obtain ⟨e1,he1⟩:=ex_at (l:=t) (i:=i) (by omega)
  refine Mx.q H (Qt.ix U52 Z66 H (Src.row 1 H) he1 H (by rfl)) H<|Mx.q H (Qt.lea A66 Z66 (Src.row 1 H) he1 0 H (by omega) H) H<|Mx.r 3 H<|Mx.q H (Qt.lv 0 A52 H H H) H<|Mx.r 1 H ?_
  obtain ⟨e2,he2⟩:=ex_at (l:=t) (i:=k) (by omega)
  refine Mx.q H (Qt.ix U52 Z66 H (Src.row 1 H) he2 H (by rfl)) H<|Mx.q H (Qt.lea A66 Z66 (Src.row 1 H) he2 0 H (by omega) H) H<|Mx.l H (Lo.al Y66 H) H ?_
  rintro _ _ ⟨g3,rfl,rfl⟩
  refine MxK.gp [1,2] [0,1] H H<|Mx.l H (Lo.al Y66 H) H ?_
  rintro _ _ ⟨g4,rfl,rfl⟩
  refine MxK.gp [2,3] [0,1] H H<|Mx.l0 H (Lo.st 0 Z66 H H H H H H H) ?_
  rintro _ _ rfl
  refine MxK.gp [2,3] [0,1] H H<|Mx.l0 H (Lo.st 1 Z66 H H H H H H H) ?_
  rintro _ _ rfl
  refine MxK.al [2,3] H (by kernel_rfl)<|Mx.nil<|J.co 4 H<|O.q (Qt.lva 1 A66 Z66 H H H) H<|O.l (Lo.ca call316 (pi_set p b V w t m i e2 (by omega) (by omega)) [2,3,4] H H .nil) H ?_
  rintro _ _ ⟨_,⟨rfl,rfl⟩,rfl⟩
  refine O.oo 4 H<|O.q (Qt.lva 3 A66 Z66 H H H) H<|O.l (Lo.ca call316 (pi_set p b V w (t.set i e2) (putI m e2.id i) k e1 (by first|omega|(simp only [List.length_set];omega)) (by first|omega|(simp only [List.length_set];omega))) [0,1,2] H H .nil) H ?_
  rintro _ _ ⟨_,⟨rfl,rfl⟩,rfl⟩
  refine O.nil ?_
  exact J.dn [] [0,1,2] H trivial H ⟨H,_,_,Nd.swap_perm (by assumption) (by assumption),hk.swap (by assumption) (by assumption),Nd.swap_at (by assumption) (by assumption),H⟩
 refine A.mx [(0,false),(1,false),(2,false),(3,false),(4,false),(5,false),(6,false),(7,false),(8,false),(9,false),(10,false),(11,false),(12,false),(13,false),(14,true),(15,true),(16,true),(17,true)] [0,1] (by kernel_rfl) H<|Mx.r 3 H<|Mx.q H (Qt.lv 0 A52 H H H) H<|Mx.r 1 H ?_
 obtain ⟨e7,he7⟩:=ex_at (l:=t) (i:=i) (by omega)
 refine Mx.q H (Qt.ix U52 Z66 H (Src.row 1 H) he7 H (by rfl)) H<|Mx.q H (Qt.lea A66 Z66 (Src.row 1 H) he7 0 H (by omega) H) H<|Mx.r 3 H<|Mx.q H (Qt.lv 0 A52 H H H) H<|Mx.r 1 H ?_
 obtain ⟨e8,he8⟩:=ex_at (l:=t) (i:=k) (by omega)
 refine Mx.q H (Qt.ix U52 Z66 H (Src.row 1 H) he8 H (by rfl)) H<|Mx.q H (Qt.lea A66 Z66 (Src.row 1 H) he8 0 H (by omega) H) H<|Mx.l H (Lo.al Y66 H) H ?_
 rintro _ _ ⟨g9,rfl,rfl⟩
 refine MxK.gp [1,2] [0,1] H H<|Mx.l H (Lo.al Y66 H) H ?_
 rintro _ _ ⟨g10,rfl,rfl⟩
 refine MxK.gp [2,3] [0,1] H H<|Mx.l0 H (Lo.st 1 Z66 H H H H H H H) ?_
 rintro _ _ rfl
 refine MxK.gp [2,3] [0,1] H H<|Mx.l0 H (Lo.st 0 Z66 H H H H H H H) ?_
 rintro _ _ rfl
 refine MxK.al [2,3] H (by kernel_rfl)<|Mx.nil<|J.co 4 H<|O.q (Qt.lva 0 A66 Z66 H H H) H<|O.l (Lo.ca call316 (pi_set p b V w t m i e8 (by omega) (by omega)) [2,3,4] H H .nil) H ?_
 rintro _ _ ⟨_,⟨rfl,rfl⟩,rfl⟩
 refine O.oo 4 H<|O.q (Qt.lva 4 A66 Z66 H H H) H<|O.l (Lo.ca call316 (pi_set p b V w (t.set i e8) (putI m e8.id i) k e7 (by first|omega|(simp only [List.length_set];omega)) (by first|omega|(simp only [List.length_set];omega))) [0,1,2] H H .nil) H ?_
 rintro _ _ ⟨_,⟨rfl,rfl⟩,rfl⟩
 refine O.nil ?_
 exact J.dn [] [0,1,2] H trivial H ⟨H,_,_,Nd.swap_perm (by assumption) (by assumption),hk.swap (by assumption) (by assumption),Nd.swap_at (by assumption) (by assumption),H⟩
theorem pi_swapI (p b:Nat) (V:Value) (w:Int) (t:List Im) (m:List (Int×Int)) (i k:Int) (ht:t.length≤100000) (hi0:0≤i) (hi:i < t.length) (hk0:0≤k) (hkk:k < t.length) (hk:Nd.AtOk t m):Tri prog 352 #[.pointer (some ⟨p,0,none⟩),.int .i64 i,.int .i64 k] [] [var p [.map (some b),.int .i64 w,V] 294,row V 66 7 (t.map Im.cells),mi b (Value.int .i64) m] (fun v L'=>v=.tuple #[]∧∃ t' m',t'.Perm t∧Nd.AtOk t' m'∧(∀ x,t[i.toNat]?=some x→t'[k.toNat]?=some x)∧L'=[var p [.map (some b),.int .i64 w,V] 294,row V 66 7 (t'.map Im.cells),mi b (Value.int .i64) m']):=by
 obtain ⟨i,rfl⟩:∃ n:Nat,i=n:=⟨i.toNat,by omega⟩
 obtain ⟨k,rfl⟩:∃ n:Nat,k=n:=⟨k.toNat,by omega⟩
 simpa using pi_swap p b V w t m i k ht (by omega) (by omega) hk
theorem pi_up (p b:Nat) (V:Value) (w:Int) (t:List Im) (m:List (Int×Int)) (k:Int) (ht:t.length≤100000) (hk0:0≤k) (hkk:k < t.length) (hk:Nd.AtOk t m):Tri prog 317 #[.pointer (some ⟨p,0,none⟩),.int .i64 k] [] [var p [.map (some b),.int .i64 w,V] 294,row V 66 7 (t.map Im.cells),mi b (Value.int .i64) m] (fun v L'=>v=.tuple #[]∧∃ t' m',t'.Perm t∧Nd.AtOk t' m'∧L'=[var p [.map (some b),.int .i64 w,V] 294,row V 66 7 (t'.map Im.cells),mi b (Value.int .i64) m']):=by
 have hp:t.Perm t:=List.Perm.refl t
 refine Tri.en func317 H ntmps317 H fun w0=>J.block ?_
 refine J.lo (X:=Int×List Im×(List (Int×Int))) (fun (j,t1,m1)=>0≤j∧j < t.length∧t1.Perm t∧Nd.AtOk t1 m1) (fun (j,t1,m1)=>[(1,.int .i64 j)]) (fun (j,t1,m1)=>[row V 66 7 (t1.map Im.cells),mi b (Value.int .i64) m1]) (fun (j,t1,m1)=>j.toNat) ⟨k,t,m⟩ [0] [1,2] [0] ⟨hk0,hkk,hp,hk⟩ ⟨H,trivial⟩ H H ?_
 rintro ⟨j,t1,m1⟩ ⟨hj0,hj1,hp,hk⟩
 refine J.cc 6 H ?_
 refine J.cd H (fun p1=>?_) (fun p1=>?_)
 ·
  refine J.co 5 H<|O.p (Pu.sub' H H (by omega)) H<|O.p (Pu.quo' H H (by omega) (by omega) (by omega)) H<|O.oc 4 H<|J.drawTail 14 Tryz.mixed (by kernel_rfl)<|S.r 3 H<|S.q (Qt.lv 2 A52 H H H) H<|S.r 1 H ?_
  obtain ⟨e2,he2⟩:=ex_at (l:=t1) (i:=(j).toNat) (by first|omega|(have hn_:=hp.length_eq;omega))
  refine S.q (Qt.ix U52 Z66 H (Src.row 0 H) he2 H (by omega)) H<|S.q (Qt.lea A66 Z66 (Src.row 0 H) he2 0 H (by omega) H) H<|S.r 3 H<|S.q (Qt.lv 2 A52 H H H) H<|S.r 1 H ?_
  obtain ⟨e3,he3⟩:=ex_at (l:=t1) (i:=((j-1) / 2).toNat) (by first|omega|(have hn_:=hp.length_eq;omega))
  refine S.q (Qt.ix U52 Z66 H (Src.row 0 H) he3 H (by omega)) H<|S.q (Qt.lea A66 Z66 (Src.row 0 H) he3 0 H (by omega) H) H<|S.endO<|O.l (Lo.ca call351 (rk_Before e2 e3) [] H H .nil) H ?_
  rintro _ _ ⟨_,⟨rfl,rfl⟩,rfl⟩
  refine O.oc 2 H ?_
  refine J.cond H (fun h5=>?_) (fun h5=>?_)
  ·
   have h6:(Nd.before e2 e3)=false:=not_flip h5
   exact J.rn [] [2,0,1] H trivial H ⟨H,_,_,hp,hk,H⟩
  have h7:(Nd.before e2 e3)=true:=not_flip h5
  refine J.co 6 H<|O.l (Lo.ca call352 (pi_swapI p b V w t1 m1 j ((j-1) / 2) (by first|omega|(have hn_:=hp.length_eq;omega)) (by omega) (by first|omega|(have hn_:=hp.length_eq;omega)) (by omega) (by first|omega|(have hn_:=hp.length_eq;omega)) hk) [2,0,1] H H .nil) H ?_
  rintro _ _ ⟨_,⟨rfl,t8,m9,hq10,hk11,_,rfl⟩,rfl⟩
  have hp:=hq10.trans hp
  have hk:=hk11
  refine O.oc 6 H ?_
  exact J.lq ⟨(j-1) / 2,t8,m9⟩ [0] [1,2] [0] ⟨by omega,by omega,hp,hk⟩ (by dsimp only;omega) ⟨H,trivial⟩ H H
 refine J.cc 1 H ?_
 exact J.dn [] [2,0,1] H trivial H ⟨H,_,_,hp,hk,H⟩
theorem pi_down (p b:Nat) (V:Value) (w:Int) (t:List Im) (m:List (Int×Int)) (k:Int) (ht:t.length≤100000) (hk0:0≤k) (hkk:k < t.length) (hk:Nd.AtOk t m):Tri prog 354 #[.pointer (some ⟨p,0,none⟩),.int .i64 k] [] [var p [.map (some b),.int .i64 w,V] 294,row V 66 7 (t.map Im.cells),mi b (Value.int .i64) m] (fun v L'=>v=.tuple #[]∧∃ t' m',t'.Perm t∧Nd.AtOk t' m'∧L'=[var p [.map (some b),.int .i64 w,V] 294,row V 66 7 (t'.map Im.cells),mi b (Value.int .i64) m']):=by
 have hp:t.Perm t:=List.Perm.refl t
 refine Tri.en func354 H ntmps354 H fun w0=>J.block ?_
 refine J.lo (X:=Int×List Im×(List (Int×Int))) (fun (j,t1,m1)=>0≤j∧j < t.length∧t1.Perm t∧Nd.AtOk t1 m1) (fun (j,t1,m1)=>[(1,.int .i64 j)]) (fun (j,t1,m1)=>[row V 66 7 (t1.map Im.cells),mi b (Value.int .i64) m1]) (fun (j,t1,m1)=>(t.length-j).toNat) ⟨k,t,m⟩ [0] [1,2] [0] ⟨hk0,hkk,hp,hk⟩ ⟨H,trivial⟩ H H ?_
 rintro ⟨j,t1,m1⟩ ⟨hj0,hj1,hp,hk⟩
 refine J.co 10 H<|O.p (Pu.mul' H H (by omega)) H<|O.p (Pu.add' H H (by omega)) H<|O.oc 3 H ?_
 refine J.lo (X:=Int×Int) (fun (be,bl)=>j≤be∧be < t.length∧2*j+1≤bl∧(be=j∨2*j+1≤be)) (fun (be,bl)=>[(4,.int .i64 be),(5,.int .i64 bl)]) (fun (be,bl)=>[]) (fun (be,bl)=>(2*j+3-bl).toNat) ⟨j,(2*j)+1⟩ [0,1] [] [2,0,1] ⟨by omega,by omega,by omega,by omega⟩ ⟨H,H,trivial⟩ H H ?_
 rintro ⟨be,bl⟩ ⟨hbe,hbe1,hbl,hbj⟩
 refine J.co 5 H<|O.p (Pu.mul' H H (by omega)) H<|O.p (Pu.add' H H (by omega)) H<|O.oo 2 H ?_
 refine O.sd 15 H (fun p1=>?_) (fun p1=>?_)
 ·
  refine O.oo 4 H<|O.gz (Qt.lv 0 A52 H H H) H H<|O.gz (Qt.lenM U52 H (Src.row 1 H)) H H<|O.oc 3 H ?_
  refine J.cd H (fun p2=>?_) (fun p2=>?_)
  ·
   refine J.cc 4 H<|J.drawTail 14 Tryz.mixed (by kernel_rfl)<|S.r 3 H<|S.q (Qt.lv 0 A52 H H H) H<|S.r 1 H ?_
   obtain ⟨e3,he3⟩:=ex_at (l:=t1) (i:=(bl).toNat) (by omega)
   refine S.q (Qt.ix U52 Z66 H (Src.row 1 H) he3 H (by omega)) H<|S.q (Qt.lea A66 Z66 (Src.row 1 H) he3 0 H (by omega) H) H<|S.r 3 H<|S.q (Qt.lv 0 A52 H H H) H<|S.r 1 H ?_
   obtain ⟨e4,he4⟩:=ex_at (l:=t1) (i:=(be).toNat) (by first|omega|(have hn_:=hp.length_eq;omega))
   refine S.q (Qt.ix U52 Z66 H (Src.row 1 H) he4 H (by omega)) H<|S.q (Qt.lea A66 Z66 (Src.row 1 H) he4 0 H (by omega) H) H<|S.endO<|O.l (Lo.ca call351 (rk_Before e3 e4) [] H H .nil) H ?_
   rintro _ _ ⟨_,⟨rfl,rfl⟩,rfl⟩
   refine O.nil ?_
   refine J.cond H (fun h6=>?_) (fun h6=>?_)
   ·
    refine J.co 7 H<|O.p (Pu.add' H H (by omega)) H<|O.oc 2 H ?_
    exact J.lq ⟨bl,bl+1⟩ [0,1] [] [0,1,2] ⟨by omega,(by first|omega|(have hn_:=hp.length_eq;omega)),by omega,by omega⟩ (by dsimp only;omega) ⟨H,H,trivial⟩ H H
   refine J.co 4 H<|O.p (Pu.add' H H (by omega)) H<|O.oc 2 H ?_
   exact J.lq ⟨be,bl+1⟩ [0,1] [] [0,1,2] ⟨by omega,(by omega),by omega,by omega⟩ (by dsimp only;omega) ⟨H,H,trivial⟩ H H
  refine J.cc 8 H ?_
  refine J.cd H (fun p7=>?_) (fun p7=>?_)
  ·
   exact J.rn [] [0,1,2] H trivial H ⟨H,_,_,hp,hk,H⟩
  refine J.co 6 H<|O.l (Lo.ca call352 (pi_swapI p b V w t1 m1 j be (by omega) (by omega) (by first|omega|(have hn_:=hp.length_eq;omega)) (by omega) (by first|omega|(have hn_:=hp.length_eq;omega)) hk) [0,1,2] H H .nil) H ?_
  rintro _ _ ⟨_,⟨rfl,t8,m9,hq10,hk11,_,rfl⟩,rfl⟩
  have hp:=hq10.trans hp
  have hk:=hk11
  refine O.oc 6 H ?_
  exact J.lq ⟨be,t8,m9⟩ [0] [1,2] [0] ⟨by omega,by omega,hp,hk⟩ (by dsimp only;omega) ⟨H,trivial⟩ H H
 refine O.oc 18 H ?_
 refine J.cd H (fun p13=>?_) (fun p13=>?_)
 ·
  exact J.rn [] [0,1,2] H trivial H ⟨H,_,_,hp,hk,H⟩
 refine J.co 6 H<|O.l (Lo.ca call352 (pi_swapI p b V w t1 m1 j be (by first|omega|(have hn_:=hp.length_eq;omega)) (by omega) (by first|omega|(have hn_:=hp.length_eq;omega)) (by omega) (by first|omega|(have hn_:=hp.length_eq;omega)) hk) [0,1,2] H H .nil) H ?_
 rintro _ _ ⟨_,⟨rfl,t14,m15,hq16,hk17,_,rfl⟩,rfl⟩
 have hp:=hq16.trans hp
 have hk:=hk17
 refine O.oc 6 H ?_
 exact J.lq ⟨be,t14,m15⟩ [0] [1,2] [0] ⟨by omega,by omega,hp,hk⟩ (by dsimp only;omega) ⟨H,trivial⟩ H H
theorem px_where (p b:Nat) (V:Value) (w:Int) (m:List (Int×Int)) (id:Int):Tri prog 314 #[.pointer (some ⟨p,0,none⟩),.int .i64 id] [var p [.map (some b),.int .i64 w,V] 294,mi b (Value.int .i64) m] [] (fun v L'=>v=.tuple #[.int .i64 ((getI m id).getD 0),.bool (getI m id).isSome]∧L'=[]):=by
 refine Tri.en func314 H ntmps314 H fun w0=>J.co 10 H<|O.q (Qt.lw 0 A178 H H H) H<|O.oo 1 H<|O.q (Qt.lkOk (V:=.int .i64 ((getI m id).getD 0)) (q:=(getI m id).isSome) N178 N3 Y3 H H (Mc.ro 1 b H H) (by cases (getI m id)<;>rfl) H) H<|O.oc 13 H ?_
 exact J.rn [_,_] [] H ⟨H,H,trivial⟩ H ⟨H,H⟩
theorem px_gone (p b:Nat) (V:Value) (w:Int) (m:List (Int×Int)) (id:Int):Tri prog 353 #[.pointer (some ⟨p,0,none⟩),.int .i64 id] [var p [.map (some b),.int .i64 w,V] 294] [mi b (Value.int .i64) m] (fun v L'=>v=.tuple #[]∧L'=[mi b (Value.int .i64) (delI m id)]):=by
 refine Tri.en func353 H ntmps353 H fun w0=>J.co 4 H<|O.q (Qt.lw 0 A178 H H H) H<|O.oo 1 H<|O.l0 (Lo.mapDel 0 H N178 N3 H H H) ?_
 rintro _ _ rfl
 refine O.nil ?_
 exact J.dn [] [0] H trivial H ⟨H,H⟩
theorem pi_out (p b:Nat) (V:Value) (w:Int) (t:List Im) (m:List (Int×Int)) (k:Int) (ht:t.length≤100000) (hk0:0≤k) (hkk:k < t.length) (hk:Nd.AtOk t m):Tri prog 321 #[.pointer (some ⟨p,0,none⟩),.int .i64 k] [] [var p [.map (some b),.int .i64 w,V] 294,row V 66 7 (t.map Im.cells),mi b (Value.int .i64) m] (fun v L'=>∃ x V' t' m',v=.tuple #[.agg #[.int .i64 x.id,.int .i64 x.level,.int .i64 x.from_,.int .i64 x.deadline,.int .i64 x.budget,.int .i64 x.since,.int .i64 x.seq],.bool true]∧t[k.toNat]?=some x∧t.Perm (x :: t')∧Nd.AtOk t' m'∧L'=[var p [.map (some b),.int .i64 w,V'] 294,row V' 66 7 (t'.map Im.cells),mi b (Value.int .i64) m']):=by
 refine Tri.en func321 H ntmps321 H fun w0=>J.co 2 H<|O.l (Lo.al Y66 H) H ?_
 rintro _ _ ⟨g1,rfl,rfl⟩
 refine O.oc 3 H<|J.dm [(0,false),(1,false),(2,false),(3,false),(4,false),(5,false),(6,false),(7,false),(8,false),(9,false),(10,false),(11,false),(12,false),(13,true),(14,true),(15,false)] [1,2] Tryz.mixed (by kernel_rfl) H<|Mx.r 3 H<|Mx.q H (Qt.lv 0 A52 H H H) H<|Mx.r 1 H ?_
 obtain ⟨e2,he2⟩:=ex_at (l:=t) (i:=(k).toNat) (by omega)
 refine Mx.q H (Qt.ix U52 Z66 H (Src.row 1 H) he2 H (by omega)) H<|Mx.q H (Qt.lea A66 Z66 (Src.row 1 H) he2 0 H (by omega) H) H<|Mx.r 3 H<|Mx.q H (Qt.lv 0 A52 H H H) H<|Mx.q H (Qt.lenM U52 H (Src.row 1 H)) H<|Mx.p H (Pu.sub' H H (by omega)) H<|Mx.l H (Lo.al Y66 H) H ?_
 rintro _ _ ⟨g3,rfl,rfl⟩
 refine MxK.gp [2,3] [0,1] H H<|Mx.l0 H (Lo.st 0 Z66 H H H H H H H) ?_
 rintro _ _ rfl
 refine MxK.gp [2,3] [0,1] H H<|Mx.r 1 H<|Mx.nil<|J.co 5 H<|O.l (Lo.ca call352 (pi_swapI p b V w t m k ((t.length:Int)-1) (by first|omega|(have hn_:=hp.length_eq;omega)) (by first|omega|(have hn_:=hp.length_eq;omega)) (by first|omega|(have hn_:=hp.length_eq;omega)) (by first|omega|(have hn_:=hp.length_eq;omega)) (by first|omega|(have hn_:=hp.length_eq;omega)) hk) [2,3,4] H H .nil) H ?_
 rintro _ _ ⟨_,⟨rfl,t4,m5,hp,hk,hs6,rfl⟩,rfl⟩
 have hsw:t4[t.length-1]?=some e2:=by have h_:=hs6 _ he2;rwa [show ((t.length:Int)-1).toNat=t.length-1 from by omega] at h_
 refine O.oo 7 H<|O.q (Qt.lv 0 A52 H H H) H<|O.oo 1 H<|O.l (Lo.headRow 1 U52 Z66 H H H (by omega) (by first|omega|(have hn_:=hp.length_eq;omega)|(have hn_:=hp.length_eq;simp only [List.length_take];omega)|(have hn_:=hp.length_eq;simp only [List.length_take] at *;omega))) H ?_
 rintro _ _ ⟨rfl,rfl⟩
 refine O.oo 2 H ?_
 refine O.one (Src.row 1 H) (fun hV8=>?_)
 refine O.l0 (Lo.so 0 sizeOf52 hV8 H H H H) ?_
 rintro _ _ rfl
 refine O.oc 2 H<|J.drawTail 5 Tryz.mixed (by kernel_rfl)<|S.r 4 H<|S.q (Qt.lv 3 A3 H H H) H<|S.endO<|O.l (Lo.ca call353 (px_gone p b (vcut V 7 0 ((t.length:Int)-1).toNat) w m5 e2.id) [2] H H (.own 0 H H .nil)) H ?_
 rintro _ _ ⟨_,⟨rfl,rfl⟩,rfl⟩
 have hla:t4.length=t.length:=hp.length_eq
 have hN:((t.length:Int)-1).toNat=t.length-1:=by omega
 have hpp:t.Perm (e2 :: (t4).take ((t.length:Int)-1).toNat):=by rw [hN];exact hp.symm.trans (hla ▸ Nd.pop_perm (by rw [hla];exact hsw))
 have hk:Nd.AtOk ((t4).take ((t.length:Int)-1).toNat) (delI m5 e2.id):=by rw [hN];exact hla ▸ hk.pop (by rw [hla];exact hsw)
 have hp:((t4).take ((t.length:Int)-1).toNat).Perm ((t4).take ((t.length:Int)-1).toNat):=List.Perm.refl _
 have hlt:((t4).take ((t.length:Int)-1).toNat).length=t.length-1:=by rw [List.length_take];omega
 refine O.oc 8 H ?_
 refine J.cd H (fun p10=>?_) (fun p10=>?_)
 ·
  refine J.co 4 H<|O.l (Lo.ca call317 (pi_up p b (vcut V 7 0 ((t.length:Int)-1).toNat) w (t4.take ((t.length:Int)-1).toNat) (delI m5 e2.id) k (by omega) (by omega) (by omega) hk) [1,2,0] H H .nil) H ?_
  rintro _ _ ⟨_,⟨rfl,t11,m12,hq13,hk14,rfl⟩,rfl⟩
  have hp:=hq13.trans hp
  have hk:=hk14
  refine O.oo 4 H<|O.l (Lo.ca call354 (pi_down p b (vcut V 7 0 ((t.length:Int)-1).toNat) w t11 m12 k (by first|omega|(have hn_:=hp.length_eq;omega)|(have hn_:=hp.length_eq;simp only [List.length_take];omega)|(have hn_:=hp.length_eq;simp only [List.length_take] at *;omega)) (by omega) (by first|omega|(have hn_:=hp.length_eq;omega)|(have hn_:=hp.length_eq;simp only [List.length_take];omega)|(have hn_:=hp.length_eq;simp only [List.length_take] at *;omega)) hk) [0,1,2] H H .nil) H ?_
  rintro _ _ ⟨_,⟨rfl,t16,m17,hq18,hk19,rfl⟩,rfl⟩
  have hp:=hq18.trans hp
  have hk:=hk19
  refine O.oo 3 H<|O.q (Qt.lva 3 A66 Z66 H H H) H<|O.l0 (Lo.st 4 Z66 H H H H H H H) ?_
  rintro _ _ rfl
  refine O.oc 2 H ?_
  exact J.rn [_,_] [0,1,2] H ⟨⟨_,_,0,0,_,H,(Cel.var 4 H),H,(Cut.agg [.int .i64 e2.id,.int .i64 e2.level,.int .i64 e2.from_,.int .i64 e2.deadline,.int .i64 e2.budget,.int .i64 e2.since,.int .i64 e2.seq] A66 Z66 H H)⟩,H,trivial⟩ H ⟨e2,_,_,_,H,he2,hpp.trans (hp.symm.cons _),hk,H⟩
 refine J.co 3 H<|O.q (Qt.lva 3 A66 Z66 H H H) H<|O.l0 (Lo.st 4 Z66 H H H H H H H) ?_
 rintro _ _ rfl
 refine O.oc 2 H ?_
 exact J.rn [_,_] [1,2,0] H ⟨⟨_,_,0,0,_,H,(Cel.var 4 H),H,(Cut.agg [.int .i64 e2.id,.int .i64 e2.level,.int .i64 e2.from_,.int .i64 e2.deadline,.int .i64 e2.budget,.int .i64 e2.since,.int .i64 e2.seq] A66 Z66 H H)⟩,H,trivial⟩ H ⟨e2,_,_,_,H,he2,hpp.trans (hp.symm.cons _),hk,H⟩
end Go.Proofs.YtohjlkjhpibkmaaGreatDoor
