/-
  Walks, printed by a program of mine.
-/
import Derived.KernelRfl
import Derived.Test.YtohjlkjhpibkmaaGreatDoorD18
import Derived.Test.YtohjlkjhpibkmaaGreatDoorD16
import Derived.Test.YtohjlkjhpibkmaaGreatDoorD03
set_option linter.unusedSimpArgs false
set_option linter.unusedVariables false
namespace Go.Proofs.YtohjlkjhpibkmaaGreatDoor
open Go Go.LK Go.Proofs.Tryz
set_option maxRecDepth 100000
set_option maxHeartbeats 4000000
theorem cf_from (n a b:Int):Tri prog 222 #[.int .i64 n,.int .i64 a,.int .i64 b] [] [] (fun v L'=>v=.bool (Cf.from_ n a b)∧L'=[]):=by
 refine Tri.en func222 H ntmps222 H fun w0=>J.co 10 H ?_
 refine O.sd 10 H (fun p1=>?_) (fun p1=>?_)
 ·
  refine O.oc 6 H ?_
  exact J.r0 H H ⟨(by simp only [vOf,Cf.from_, *,decide_true,decide_false,Bool.true_and,Bool.false_and]),H⟩
 refine O.oc 6 H ?_
 exact J.r0 H H ⟨(by simp only [vOf,Cf.from_, *,decide_true,decide_false,Bool.true_and,Bool.false_and]),H⟩
theorem cf_right (c:Cl) (x0 x1 x2 x3 x4 x5 x6 x7 x8 x9 x10 x11 x12:Int) (cv:Value) (cs:List Cl) (self services:Int) (h0:-1000000≤services) (h1:services≤1000000):Tri prog 298 #[.agg #[.int .i64 c.to,.int .i64 c.tier,.int .i64 c.weight,.int .i64 c.most],.agg #[.int .i64 x0,.int .i64 x1,.int .i64 x2,.int .i64 x3,.int .i64 x4,.int .i64 x5,.int .i64 x6,.int .i64 x7,.int .i64 x8,.int .i64 x9,.int .i64 x10,.int .i64 x11,.int .i64 x12,cv],.int .i64 self,.int .i64 services] [rd cv 4 (cs.map Cl.cells)] [] (fun v L'=>v=.bool (Cf.right c x3 self services)∧L'=[]):=by
 refine Tri.en func298 H ntmps298 H fun w0=>J.co 2 H<|O.l (Lo.bx H H) H ?_
 rintro _ _ ⟨g1,rfl,rfl⟩
 refine O.one (Src.ro 0 H) (fun hV3=>?_)
 refine O.l (Lo.bx H H) H ?_
 rintro _ _ ⟨g2,rfl,rfl⟩
 refine O.oo 5 H<|O.q (Qt.lv 1 A3 H H H) H<|O.oo 1 H<|O.p (Pu.sub' H H (by omega)) H<|O.l (Lo.ca C222 (cf_from c.to 0 (services-1)) [] H H .nil) H ?_
 rintro _ _ ⟨_,⟨rfl,rfl⟩,rfl⟩
 refine O.oo 1 H ?_
 refine O.sp 14 H (fun h5=>?_) (fun h5=>?_)
 ·
  refine O.oo 1 H<|O.gz (Qt.lv 1 A3 H H H) H H<|O.oo 4 H ?_
  refine O.sd 20 H (fun p6=>?_) (fun p6=>?_)
  ·
   refine O.oo 1 H<|O.gz (Qt.lv 1 A3 H H H) H H<|O.oo 1 H<|O.gz (Qt.lv 0 A3 H H H) H H<|O.gy (Lo.ca C222 (cf_from c.tier 0 x3) [] H H .nil) H H ?_
   rintro _ _ ⟨_,⟨rfl,rfl⟩,rfl⟩
   refine O.oo 2 H ?_
   refine O.sp 27 H (fun h8=>?_) (fun h8=>?_)
   ·
    refine O.oo 1 H<|O.gz (Qt.lv 1 A3 H H H) H H<|O.gy (Lo.ca C222 (cf_from c.weight 1 8) [] H H .nil) H H ?_
    rintro _ _ ⟨_,⟨rfl,rfl⟩,rfl⟩
    refine O.oo 2 H ?_
    refine O.sp 32 H (fun h10=>?_) (fun h10=>?_)
    ·
     refine O.oo 1 H<|O.gz (Qt.lv 1 A3 H H H) H H<|O.gy (Lo.ca C222 (cf_from c.most 1 65535) [] H H .nil) H H ?_
     rintro _ _ ⟨_,⟨rfl,rfl⟩,rfl⟩
     refine O.oc 3 H ?_
     exact J.r0 H H ⟨(by first|(simp only [vOf,Cf.right, *,Bool.true_and,Bool.false_and,Bool.and_true,Bool.and_false,decide_true,decide_false,Bool.not_true,Bool.not_false,ne_eq,decide_not];done)|(have h_:=Decidable.not_not.1 (by assumption:¬c.to≠self);simp only [vOf,Cf.right,h_, *,Bool.true_and,Bool.false_and,Bool.and_true,Bool.and_false,decide_true,decide_false,Bool.not_true,Bool.not_false])),H⟩
    refine O.oc 6 H ?_
    exact J.r0 H H ⟨(by first|(simp only [vOf,Cf.right, *,Bool.true_and,Bool.false_and,Bool.and_true,Bool.and_false,decide_true,decide_false,Bool.not_true,Bool.not_false,ne_eq,decide_not];done)|(have h_:=Decidable.not_not.1 (by assumption:¬c.to≠self);simp only [vOf,Cf.right,h_, *,Bool.true_and,Bool.false_and,Bool.and_true,Bool.and_false,decide_true,decide_false,Bool.not_true,Bool.not_false])),H⟩
   refine O.oc 11 H ?_
   exact J.r0 H H ⟨(by first|(simp only [vOf,Cf.right, *,Bool.true_and,Bool.false_and,Bool.and_true,Bool.and_false,decide_true,decide_false,Bool.not_true,Bool.not_false,ne_eq,decide_not];done)|(have h_:=Decidable.not_not.1 (by assumption:¬c.to≠self);simp only [vOf,Cf.right,h_, *,Bool.true_and,Bool.false_and,Bool.and_true,Bool.and_false,decide_true,decide_false,Bool.not_true,Bool.not_false])),H⟩
  refine O.oc 18 H ?_
  exact J.r0 H H ⟨(by first|(simp only [vOf,Cf.right, *,Bool.true_and,Bool.false_and,Bool.and_true,Bool.and_false,decide_true,decide_false,Bool.not_true,Bool.not_false,ne_eq,decide_not];done)|(have h_:=Decidable.not_not.1 (by assumption:¬c.to≠self);simp only [vOf,Cf.right,h_, *,Bool.true_and,Bool.false_and,Bool.and_true,Bool.and_false,decide_true,decide_false,Bool.not_true,Bool.not_false])),H⟩
 refine O.oc 24 H ?_
 exact J.r0 H H ⟨(by first|(simp only [vOf,Cf.right, *,Bool.true_and,Bool.false_and,Bool.and_true,Bool.and_false,decide_true,decide_false,Bool.not_true,Bool.not_false,ne_eq,decide_not];done)|(have h_:=Decidable.not_not.1 (by assumption:¬c.to≠self);simp only [vOf,Cf.right,h_, *,Bool.true_and,Bool.false_and,Bool.and_true,Bool.and_false,decide_true,decide_false,Bool.not_true,Bool.not_false])),H⟩
theorem cf_calls1 (d:Cl) (g:Nat) (c:Cl):Tri prog 297 #[.agg #[.int .i64 d.to,.int .i64 d.tier,.int .i64 d.weight,.int .i64 d.most],.pointer (some ⟨g,0,none⟩)] [var g [.int .i64 c.to,.int .i64 c.tier,.int .i64 c.weight,.int .i64 c.most] 136] [] (fun v L'=>v=.bool (decide (d.to=c.to))∧L'=[]):=by
 refine Tri.en func297 H ntmps297 H fun w0=>J.co 2 H<|O.l (Lo.bx H H) H ?_
 rintro _ _ ⟨g1,rfl,rfl⟩
 refine O.oo 5 H<|O.q (Qt.lv 0 A3 H H H) H<|O.oo 1 H<|O.q (Qt.lw 0 A3 H H H) H<|O.oc 3 H ?_
 exact J.r0 H H ⟨H,H⟩
theorem sl_IndexFunc (fid:Nat) (caps:List Value) (p:Cl→Bool) (RoF:List Sp) (lv:Value) (l:List Cl) (hc:∀ args w,(callFunc fid args).run prog w=.ok (.enter fid args) w) (hF:∀ e:Cl,Tri prog fid (([.agg (Cl.cells e).toArray]:List Value)++caps).toArray RoF [] (fun v L'=>v=.bool (p e)∧L'=[])) (hl:l.length≤100000):Tri prog 345 #[lv,(.func (.func fid) #[] caps.toArray)] (rd lv 4 (l.map Cl.cells) :: RoF) [] (fun v L'=>v=.int .i64 (Cf.indexF p l)∧L'=[]):=by
 refine Tri.en func345 H ntmps345 H fun w0=>J.co 8 H<|O.q (Qt.lenM U54 H (Src.ro 0 H)) H<|O.oc 3 H ?_
 refine J.lo (X:=Nat) (fun k=>k≤l.length∧∀ j x,j < k→l[j]?=some x→p x=false) (fun k=>[(8,.int .i64 (k:Int))]) (fun k=>[]) (fun k=>l.length-k) 0 [0,1,7] [] [] ⟨by omega,fun j x h=>by omega⟩ ⟨(eqi (by omega)),trivial⟩ H H ?_
 rintro k ⟨hk,hno⟩
 refine J.cc 5 H ?_
 refine J.cd H (fun p1=>?_) (fun p1=>?_)
 ·
  refine J.co 13 H ?_
  obtain ⟨e2,he2⟩:=ex_at (l:=l) (i:=k) (by omega)
  refine O.q (Qt.ix U54 Z136 H (Src.ro 0 H) he2 H (by rfl)) H<|O.q (Qt.lea isAgg136 Z136 (Src.ro 0 H) he2 0 H (by omega) H) H<|O.l (Lo.callV (vs:=[.agg #[.int .i64 e2.to,.int .i64 e2.tier,.int .i64 e2.weight,.int .i64 e2.most]]) (caps:=caps) hc H H (hF e2) [] [] (by decide) H [] H (RoOk.sub (fun _ hA=>List.mem_cons_of_mem _ hA) [] H)) H ?_
  rintro _ _ ⟨_,⟨rfl,rfl⟩,rfl⟩
  refine O.nil ?_
  refine J.cond H (fun h4=>?_) (fun h4=>?_)
  ·
   refine J.cc 5 H ?_
   exact J.r0 H H ⟨(by rw [Cf.indexF_at hno he2 (by assumption)];rfl),H⟩
  refine J.co 3 H<|O.p (Pu.add' H H (by omega)) H<|O.oc 2 H ?_
  exact J.lq (k+1) [0,1,7] [] [] ⟨by omega,none_step hno he2 (by assumption)⟩ (by omega) ⟨(eqi (by omega)),trivial⟩ H H
 refine J.cc 5 H ?_
 exact J.r0 H H ⟨(by rw [Cf.indexF_no hno (by omega)];rfl),H⟩
theorem sl_ContainsFunc (fid:Nat) (caps:List Value) (p:Cl→Bool) (RoF:List Sp) (lv:Value) (l:List Cl) (hc:∀ args w,(callFunc fid args).run prog w=.ok (.enter fid args) w) (hF:∀ e:Cl,Tri prog fid (([.agg (Cl.cells e).toArray]:List Value)++caps).toArray RoF [] (fun v L'=>v=.bool (p e)∧L'=[])) (hl:l.length≤100000):Tri prog 296 #[lv,(.func (.func fid) #[] caps.toArray)] (rd lv 4 (l.map Cl.cells) :: RoF) [] (fun v L'=>v=.bool (l.any p)∧L'=[]):=by
 refine Tri.en func296 H ntmps296 H fun w0=>J.co 8 H<|O.l (Lo.call [lv,(.func (.func fid) #[] caps.toArray)] call345 H (sl_IndexFunc fid caps p RoF lv l hc hF (by omega)) [] [] (by decide) H [] H (RoOk.ro 0 H [] H (RoOk.sub (fun _ hA=>List.mem_cons_of_mem _ hA) [] H))) H ?_
 rintro _ _ ⟨_,⟨rfl,rfl⟩,rfl⟩
 refine O.oc 3 H ?_
 exact J.r0 H H ⟨congrArg Value.bool Cf.indexF_nn,H⟩
theorem cf_calls (x0 x1 x2 x3 x4 x5 x6 x7 x8 x9 x10 x11 x12:Int) (cv:Value) (cs:List Cl) (self services:Int) (h0:-1000000≤services) (h1:services≤1000000) (hl:cs.length≤100000):Tri prog 223 #[.agg #[.int .i64 x0,.int .i64 x1,.int .i64 x2,.int .i64 x3,.int .i64 x4,.int .i64 x5,.int .i64 x6,.int .i64 x7,.int .i64 x8,.int .i64 x9,.int .i64 x10,.int .i64 x11,.int .i64 x12,cv],.int .i64 self,.int .i64 services] [rd cv 4 (cs.map Cl.cells)] [] (fun v L'=>v=.bool (Cf.callsOk cs x3 self services)∧L'=[]):=by
 refine Tri.en func223 H ntmps223 H fun w0=>J.co 2 H ?_
 refine O.one (Src.ro 0 H) (fun hV2=>?_)
 refine O.l (Lo.bx H H) H ?_
 rintro _ _ ⟨g1,rfl,rfl⟩
 refine O.oo 6 H<|O.q (Qt.lv 0 A54 H H H) H<|O.q (Qt.lenM U54 H (Src.ro 0 H)) H<|O.oc 2 H ?_
 refine J.cd H (fun p3=>?_) (fun p3=>?_)
 ·
  refine J.cc 4 H ?_
  exact J.r0 H H ⟨(by rw [Cf.callsOk_many (by omega)];rfl),H⟩
 refine J.co 5 H<|O.q (Qt.lv 0 A54 H H H) H<|O.q (Qt.lenM U54 H (Src.ro 0 H)) H<|O.oc 3 H ?_
 refine J.lo (X:=Nat) (fun k=>k≤cs.length∧Cf.okU cs x3 self services k=true) (fun k=>[(17,.int .i64 (k:Int))]) (fun k=>[]) (fun k=>cs.length-k) 0 [1,2,3,15,16] [] [0] ⟨by omega,rfl⟩ ⟨(eqi (by omega)),trivial⟩ H H ?_
 rintro k ⟨hk,hok⟩
 refine J.cc 5 H ?_
 refine J.cd H (fun p4=>?_) (fun p4=>?_)
 ·
  refine J.co 6 H ?_
  obtain ⟨e5,he5⟩:=ex_at (l:=cs) (i:=k) (by omega)
  refine O.q (Qt.ix U54 Z136 H (Src.ro 0 H) he5 H (by rfl)) H<|O.q (Qt.lea isAgg136 Z136 (Src.ro 0 H) he5 0 H (by omega) H) H<|O.l (Lo.al Y136 H) H ?_
  rintro _ _ ⟨g6,rfl,rfl⟩
  refine O.oo 1 H<|O.l0 (Lo.st 0 Z136 H H H H H H H) ?_
  rintro _ _ rfl
  refine O.oo 4 H<|O.q (Qt.lv 1 A54 H H H) H<|O.oo 1 H<|O.q (Qt.cutHead U54 Z136 H (Src.ro 0 H) H (by omega) (by omega)) H<|O.p (Pu.makeFunc [.pointer (some ⟨g6,0,none⟩)] H) H<|O.l (Lo.ca call296 (sl_ContainsFunc 297 [.pointer (some ⟨g6,0,none⟩)] (fun d=>decide (d.to=e5.to)) [var g6 [.int .i64 e5.to,.int .i64 e5.tier,.int .i64 e5.weight,.int .i64 e5.most] 136] (vcut cv 4 0 ((k:Int)).toNat) (cs.take ((k:Int)).toNat) (by exact (by exact call297)) (fun e=>cf_calls1 e g6 e5) (by rw [List.length_take];omega)) [] H H (.rc 0 (head_rd (by omega)) H (.own 0 H H .nil))) H ?_
  rintro _ _ ⟨_,⟨rfl,rfl⟩,rfl⟩
  refine O.oo 6 H ?_
  refine O.sp 29 H (fun h8=>?_) (fun h8=>?_)
  ·
   refine O.oc 13 H ?_
   exact J.r0 H H ⟨(by rw [Cf.callsOk_bad he5 (by first|exact .inl (by assumption)|exact .inr (by assumption))];rfl),H⟩
  refine O.gz (Qt.lva 0 isAgg136 Z136 H H H) H H<|O.gz (Qt.lva 1 A56 Z56 H H H) H H<|O.oo 2 H<|O.gy (Lo.ca call298 (cf_right e5 x0 x1 x2 x3 x4 x5 x6 x7 x8 x9 x10 x11 x12 cv cs self services h0 h1) [] H H (.ro 0 H .nil)) H H ?_
  rintro _ _ ⟨_,⟨rfl,rfl⟩,rfl⟩
  refine O.oc 3 H ?_
  refine J.cond H (fun h10=>?_) (fun h10=>?_)
  ·
   have h11:(Cf.right e5 x3 self services)=false:=not_flip h10
   refine J.cc 4 H ?_
   exact J.r0 H H ⟨(by rw [Cf.callsOk_bad he5 (by first|exact .inl (by assumption)|exact .inr (by assumption))];rfl),H⟩
  have h12:(Cf.right e5 x3 self services)=true:=not_flip h10
  refine J.co 3 H<|O.p (Pu.add' H H (by omega)) H<|O.oc 2 H ?_
  exact J.lq (k+1) [1,2,3,15,16] [] [1] ⟨by omega,Cf.okU_next hok he5 (by assumption) (by assumption)⟩ (by omega) ⟨(eqi (by omega)),trivial⟩ H H
 refine J.cc 5 H ?_
 exact J.r0 H H ⟨(by rw [Cf.callsOk_all hok (by omega) hk (by omega)];rfl),H⟩
theorem cf_Check (x0 x1 x2 x3 x4 x5 x6 x7 x8 x9 x10 x11 x12:Int) (cv:Value) (cs:List Cl) (self services levels:Int) (hl:cs.length≤100000):Tri prog 125 #[.agg #[.int .i64 x0,.int .i64 x1,.int .i64 x2,.int .i64 x3,.int .i64 x4,.int .i64 x5,.int .i64 x6,.int .i64 x7,.int .i64 x8,.int .i64 x9,.int .i64 x10,.int .i64 x11,.int .i64 x12,cv],.int .i64 self,.int .i64 services,.int .i64 levels] [rd cv 4 (cs.map Cl.cells)] [] (fun v L'=>v=.int .i64 (Cf.check [x0,x1,x2,x3,x4,x5,x6,x7,x8,x9,x10,x11,x12] cs self services levels)∧L'=[]):=by
 refine Tri.en func125 H ntmps125 H fun w0=>J.co 2 H ?_
 refine O.one (Src.ro 0 H) (fun hV2=>?_)
 refine O.l (Lo.bx H H) H ?_
 rintro _ _ ⟨g1,rfl,rfl⟩
 refine O.oo 5 H<|O.q (Qt.lv 0 A3 H H H) H<|O.l (Lo.ca C222 (cf_from x0 1 16) [] H H .nil) H ?_
 rintro _ _ ⟨_,⟨rfl,rfl⟩,rfl⟩
 refine O.oo 1 H ?_
 refine O.sp 14 H (fun h4=>?_) (fun h4=>?_)
 ·
  refine O.oo 1 H<|O.gz (Qt.lv 0 A3 H H H) H H<|O.gy (Lo.ca C222 (cf_from x1 1 64) [] H H .nil) H H ?_
  rintro _ _ ⟨_,⟨rfl,rfl⟩,rfl⟩
  refine O.oo 2 H ?_
  refine O.sp 19 H (fun h6=>?_) (fun h6=>?_)
  ·
   refine O.oo 1 H<|O.gz (Qt.lv 0 A3 H H H) H H<|O.gy (Lo.ca C222 (cf_from x2 1 64) [] H H .nil) H H ?_
   rintro _ _ ⟨_,⟨rfl,rfl⟩,rfl⟩
   refine O.oo 2 H ?_
   refine O.sp 24 H (fun h8=>?_) (fun h8=>?_)
   ·
    refine O.oo 1 H<|O.gz (Qt.lv 0 A3 H H H) H H<|O.gy (Lo.ca C222 (cf_from x3 0 7) [] H H .nil) H H ?_
    rintro _ _ ⟨_,⟨rfl,rfl⟩,rfl⟩
    refine O.oo 6 H<|O.q (Qt.lv 0 A3 H H H) H<|O.l (Lo.ca C222 (cf_from x4 0 256) [] H H .nil) H ?_
    rintro _ _ ⟨_,⟨rfl,rfl⟩,rfl⟩
    refine O.oo 1 H ?_
    refine O.sp 32 H (fun h11=>?_) (fun h11=>?_)
    ·
     refine O.oo 1 H<|O.gz (Qt.lv 0 A3 H H H) H H<|O.gy (Lo.ca C222 (cf_from x5 0 1099511627776) [] H H .nil) H H ?_
     rintro _ _ ⟨_,⟨rfl,rfl⟩,rfl⟩
     refine O.oo 7 H<|O.l (Lo.ca C222 (cf_from services 1 8) [] H H .nil) H ?_
     rintro _ _ ⟨_,⟨rfl,rfl⟩,rfl⟩
     refine O.oo 2 H ?_
     refine O.sp 40 H (fun h14=>?_) (fun h14=>?_)
     ·
      have h15:(Cf.from_ services 1 8)=false:=not_flip h14
      refine O.oc 27 H ?_
      exact J.r0 H H ⟨(by rw [Cf.check_no13 (by simp only [*,Bool.and_true,Bool.and_false,Bool.true_and,Bool.false_and])];rfl),H⟩
     have h16:(Cf.from_ services 1 8)=true:=not_flip h14
     refine O.oo 2 H<|O.gz (Pu.qt (Pu.sub' H H (by have h_:=Cf.from_bnd (by assumption:Cf.from_ services 1 8=true);omega))) H H<|O.gy (Lo.ca C222 (cf_from self 0 (services-1)) [] H H .nil) H H ?_
     rintro _ _ ⟨_,⟨rfl,rfl⟩,rfl⟩
     refine O.oo 3 H ?_
     refine O.sp 47 H (fun h18=>?_) (fun h18=>?_)
     ·
      have h19:(Cf.from_ self 0 (services-1))=false:=not_flip h18
      refine O.oc 20 H ?_
      exact J.r0 H H ⟨(by rw [Cf.check_no13 (by simp only [*,Bool.and_true,Bool.and_false,Bool.true_and,Bool.false_and])];rfl),H⟩
     have h20:(Cf.from_ self 0 (services-1))=true:=not_flip h18
     refine O.oo 4 H ?_
     refine O.sp 51 H (fun h21=>?_) (fun h21=>?_)
     ·
      have h22:(Cf.from_ x3 0 7)=false:=not_flip h21
      refine O.oc 16 H ?_
      exact J.r0 H H ⟨(by rw [Cf.check_no13 (by simp only [*,Bool.and_true,Bool.and_false,Bool.true_and,Bool.false_and])];rfl),H⟩
     have h23:(Cf.from_ x3 0 7)=true:=not_flip h21
     refine O.oo 4 H ?_
     refine O.sp 55 H (fun h24=>?_) (fun h24=>?_)
     ·
      have h25:(Cf.from_ x5 0 1099511627776)=false:=not_flip h24
      refine O.oc 12 H ?_
      exact J.r0 H H ⟨(by rw [Cf.check_no13 (by simp only [*,Bool.and_true,Bool.and_false,Bool.true_and,Bool.false_and])];rfl),H⟩
     have h26:(Cf.from_ x5 0 1099511627776)=true:=not_flip h24
     refine O.gz (Qt.lva 0 A56 Z56 H H H) H H<|O.oo 2 H<|O.gy (Lo.ca call223 (cf_calls x0 x1 x2 x3 x4 x5 x6 x7 x8 x9 x10 x11 x12 cv cs self services (by have h_:=Cf.from_bnd (by assumption:Cf.from_ services 1 8=true);omega) (by have h_:=Cf.from_bnd (by assumption:Cf.from_ services 1 8=true);omega) hl) [] H H (.ro 0 H .nil)) H H ?_
     rintro _ _ ⟨_,⟨rfl,rfl⟩,rfl⟩
     refine O.oc 3 H ?_
     refine J.cond H (fun h28=>?_) (fun h28=>?_)
     ·
      have h29:(Cf.callsOk cs x3 self services)=false:=not_flip h28
      refine J.cc 4 H ?_
      exact J.r0 H H ⟨(by rw [Cf.check_no13 (by simp only [*,Bool.and_true,Bool.and_false,Bool.true_and,Bool.false_and])];rfl),H⟩
     have h30:(Cf.callsOk cs x3 self services)=true:=not_flip h28
     refine J.co 4 H<|O.q (Qt.lva 0 A45 Z45 H H H) H<|O.oo 1 H<|O.l (Lo.ca call130 (kn_Check x6 x7 x8 x9 x10 x11 x12 levels) [] H H .nil) H ?_
     rintro _ _ ⟨_,⟨rfl,rfl⟩,rfl⟩
     refine O.oc 2 H ?_
     exact J.r0 H H ⟨(by rw [Cf.check_yes13 (by assumption) (by assumption) (by simp only [*,Bool.and_true]) (by assumption)];rfl),H⟩
    refine O.oo 10 H<|O.l (Lo.ca C222 (cf_from services 1 8) [] H H .nil) H ?_
    rintro _ _ ⟨_,⟨rfl,rfl⟩,rfl⟩
    refine O.oo 2 H ?_
    refine O.sp 40 H (fun h33=>?_) (fun h33=>?_)
    ·
     have h34:(Cf.from_ services 1 8)=false:=not_flip h33
     refine O.oc 27 H ?_
     exact J.r0 H H ⟨(by rw [Cf.check_no13 (by simp only [*,Bool.and_true,Bool.and_false,Bool.true_and,Bool.false_and])];rfl),H⟩
    have h35:(Cf.from_ services 1 8)=true:=not_flip h33
    refine O.oo 2 H<|O.gz (Pu.qt (Pu.sub' H H (by have h_:=Cf.from_bnd (by assumption:Cf.from_ services 1 8=true);omega))) H H<|O.gy (Lo.ca C222 (cf_from self 0 (services-1)) [] H H .nil) H H ?_
    rintro _ _ ⟨_,⟨rfl,rfl⟩,rfl⟩
    refine O.oo 3 H ?_
    refine O.sp 47 H (fun h37=>?_) (fun h37=>?_)
    ·
     have h38:(Cf.from_ self 0 (services-1))=false:=not_flip h37
     refine O.oc 20 H ?_
     exact J.r0 H H ⟨(by rw [Cf.check_no13 (by simp only [*,Bool.and_true,Bool.and_false,Bool.true_and,Bool.false_and])];rfl),H⟩
    have h39:(Cf.from_ self 0 (services-1))=true:=not_flip h37
    refine O.oo 4 H ?_
    refine O.sp 51 H (fun h40=>?_) (fun h40=>?_)
    ·
     have h41:(Cf.from_ x3 0 7)=false:=not_flip h40
     refine O.oc 16 H ?_
     exact J.r0 H H ⟨(by rw [Cf.check_no13 (by simp only [*,Bool.and_true,Bool.and_false,Bool.true_and,Bool.false_and])];rfl),H⟩
    have h42:(Cf.from_ x3 0 7)=true:=not_flip h40
    refine O.oc 16 H ?_
    exact J.r0 H H ⟨(by rw [Cf.check_no13 (by simp only [*,Bool.and_true,Bool.and_false,Bool.true_and,Bool.false_and])];rfl),H⟩
   refine O.oo 9 H<|O.q (Qt.lv 0 A3 H H H) H<|O.l (Lo.ca C222 (cf_from x4 0 256) [] H H .nil) H ?_
   rintro _ _ ⟨_,⟨rfl,rfl⟩,rfl⟩
   refine O.oo 1 H ?_
   refine O.sp 32 H (fun h44=>?_) (fun h44=>?_)
   ·
    refine O.oo 1 H<|O.gz (Qt.lv 0 A3 H H H) H H<|O.gy (Lo.ca C222 (cf_from x5 0 1099511627776) [] H H .nil) H H ?_
    rintro _ _ ⟨_,⟨rfl,rfl⟩,rfl⟩
    refine O.oo 7 H<|O.l (Lo.ca C222 (cf_from services 1 8) [] H H .nil) H ?_
    rintro _ _ ⟨_,⟨rfl,rfl⟩,rfl⟩
    refine O.oo 2 H ?_
    refine O.sp 40 H (fun h47=>?_) (fun h47=>?_)
    ·
     have h48:(Cf.from_ services 1 8)=false:=not_flip h47
     refine O.oc 27 H ?_
     exact J.r0 H H ⟨(by rw [Cf.check_no13 (by simp only [*,Bool.and_true,Bool.and_false,Bool.true_and,Bool.false_and])];rfl),H⟩
    have h49:(Cf.from_ services 1 8)=true:=not_flip h47
    refine O.oo 2 H<|O.gz (Pu.qt (Pu.sub' H H (by have h_:=Cf.from_bnd (by assumption:Cf.from_ services 1 8=true);omega))) H H<|O.gy (Lo.ca C222 (cf_from self 0 (services-1)) [] H H .nil) H H ?_
    rintro _ _ ⟨_,⟨rfl,rfl⟩,rfl⟩
    refine O.oo 3 H ?_
    refine O.sp 47 H (fun h51=>?_) (fun h51=>?_)
    ·
     have h52:(Cf.from_ self 0 (services-1))=false:=not_flip h51
     refine O.oc 20 H ?_
     exact J.r0 H H ⟨(by rw [Cf.check_no13 (by simp only [*,Bool.and_true,Bool.and_false,Bool.true_and,Bool.false_and])];rfl),H⟩
    have h53:(Cf.from_ self 0 (services-1))=true:=not_flip h51
    refine O.oc 20 H ?_
    exact J.r0 H H ⟨(by rw [Cf.check_no13 (by simp only [*,Bool.and_true,Bool.and_false,Bool.true_and,Bool.false_and])];rfl),H⟩
   refine O.oo 10 H<|O.l (Lo.ca C222 (cf_from services 1 8) [] H H .nil) H ?_
   rintro _ _ ⟨_,⟨rfl,rfl⟩,rfl⟩
   refine O.oo 2 H ?_
   refine O.sp 40 H (fun h55=>?_) (fun h55=>?_)
   ·
    have h56:(Cf.from_ services 1 8)=false:=not_flip h55
    refine O.oc 27 H ?_
    exact J.r0 H H ⟨(by rw [Cf.check_no13 (by simp only [*,Bool.and_true,Bool.and_false,Bool.true_and,Bool.false_and])];rfl),H⟩
   have h57:(Cf.from_ services 1 8)=true:=not_flip h55
   refine O.oo 2 H<|O.gz (Pu.qt (Pu.sub' H H (by have h_:=Cf.from_bnd (by assumption:Cf.from_ services 1 8=true);omega))) H H<|O.gy (Lo.ca C222 (cf_from self 0 (services-1)) [] H H .nil) H H ?_
   rintro _ _ ⟨_,⟨rfl,rfl⟩,rfl⟩
   refine O.oo 3 H ?_
   refine O.sp 47 H (fun h59=>?_) (fun h59=>?_)
   ·
    have h60:(Cf.from_ self 0 (services-1))=false:=not_flip h59
    refine O.oc 20 H ?_
    exact J.r0 H H ⟨(by rw [Cf.check_no13 (by simp only [*,Bool.and_true,Bool.and_false,Bool.true_and,Bool.false_and])];rfl),H⟩
   have h61:(Cf.from_ self 0 (services-1))=true:=not_flip h59
   refine O.oc 20 H ?_
   exact J.r0 H H ⟨(by rw [Cf.check_no13 (by simp only [*,Bool.and_true,Bool.and_false,Bool.true_and,Bool.false_and])];rfl),H⟩
  refine O.oo 14 H<|O.q (Qt.lv 0 A3 H H H) H<|O.l (Lo.ca C222 (cf_from x4 0 256) [] H H .nil) H ?_
  rintro _ _ ⟨_,⟨rfl,rfl⟩,rfl⟩
  refine O.oo 1 H ?_
  refine O.sp 32 H (fun h63=>?_) (fun h63=>?_)
  ·
   refine O.oo 1 H<|O.gz (Qt.lv 0 A3 H H H) H H<|O.gy (Lo.ca C222 (cf_from x5 0 1099511627776) [] H H .nil) H H ?_
   rintro _ _ ⟨_,⟨rfl,rfl⟩,rfl⟩
   refine O.oo 7 H<|O.l (Lo.ca C222 (cf_from services 1 8) [] H H .nil) H ?_
   rintro _ _ ⟨_,⟨rfl,rfl⟩,rfl⟩
   refine O.oo 2 H ?_
   refine O.sp 40 H (fun h66=>?_) (fun h66=>?_)
   ·
    have h67:(Cf.from_ services 1 8)=false:=not_flip h66
    refine O.oc 27 H ?_
    exact J.r0 H H ⟨(by rw [Cf.check_no13 (by simp only [*,Bool.and_true,Bool.and_false,Bool.true_and,Bool.false_and])];rfl),H⟩
   have h68:(Cf.from_ services 1 8)=true:=not_flip h66
   refine O.oo 2 H<|O.gz (Pu.qt (Pu.sub' H H (by have h_:=Cf.from_bnd (by assumption:Cf.from_ services 1 8=true);omega))) H H<|O.gy (Lo.ca C222 (cf_from self 0 (services-1)) [] H H .nil) H H ?_
   rintro _ _ ⟨_,⟨rfl,rfl⟩,rfl⟩
   refine O.oo 3 H ?_
   refine O.sp 47 H (fun h70=>?_) (fun h70=>?_)
   ·
    have h71:(Cf.from_ self 0 (services-1))=false:=not_flip h70
    refine O.oc 20 H ?_
    exact J.r0 H H ⟨(by rw [Cf.check_no13 (by simp only [*,Bool.and_true,Bool.and_false,Bool.true_and,Bool.false_and])];rfl),H⟩
   have h72:(Cf.from_ self 0 (services-1))=true:=not_flip h70
   refine O.oc 20 H ?_
   exact J.r0 H H ⟨(by rw [Cf.check_no13 (by simp only [*,Bool.and_true,Bool.and_false,Bool.true_and,Bool.false_and])];rfl),H⟩
  refine O.oo 10 H<|O.l (Lo.ca C222 (cf_from services 1 8) [] H H .nil) H ?_
  rintro _ _ ⟨_,⟨rfl,rfl⟩,rfl⟩
  refine O.oo 2 H ?_
  refine O.sp 40 H (fun h74=>?_) (fun h74=>?_)
  ·
   have h75:(Cf.from_ services 1 8)=false:=not_flip h74
   refine O.oc 27 H ?_
   exact J.r0 H H ⟨(by rw [Cf.check_no13 (by simp only [*,Bool.and_true,Bool.and_false,Bool.true_and,Bool.false_and])];rfl),H⟩
  have h76:(Cf.from_ services 1 8)=true:=not_flip h74
  refine O.oo 2 H<|O.gz (Pu.qt (Pu.sub' H H (by have h_:=Cf.from_bnd (by assumption:Cf.from_ services 1 8=true);omega))) H H<|O.gy (Lo.ca C222 (cf_from self 0 (services-1)) [] H H .nil) H H ?_
  rintro _ _ ⟨_,⟨rfl,rfl⟩,rfl⟩
  refine O.oo 3 H ?_
  refine O.sp 47 H (fun h78=>?_) (fun h78=>?_)
  ·
   have h79:(Cf.from_ self 0 (services-1))=false:=not_flip h78
   refine O.oc 20 H ?_
   exact J.r0 H H ⟨(by rw [Cf.check_no13 (by simp only [*,Bool.and_true,Bool.and_false,Bool.true_and,Bool.false_and])];rfl),H⟩
  have h80:(Cf.from_ self 0 (services-1))=true:=not_flip h78
  refine O.oc 20 H ?_
  exact J.r0 H H ⟨(by rw [Cf.check_no13 (by simp only [*,Bool.and_true,Bool.and_false,Bool.true_and,Bool.false_and])];rfl),H⟩
 refine O.oo 19 H<|O.q (Qt.lv 0 A3 H H H) H<|O.l (Lo.ca C222 (cf_from x4 0 256) [] H H .nil) H ?_
 rintro _ _ ⟨_,⟨rfl,rfl⟩,rfl⟩
 refine O.oo 1 H ?_
 refine O.sp 32 H (fun h82=>?_) (fun h82=>?_)
 ·
  refine O.oo 1 H<|O.gz (Qt.lv 0 A3 H H H) H H<|O.gy (Lo.ca C222 (cf_from x5 0 1099511627776) [] H H .nil) H H ?_
  rintro _ _ ⟨_,⟨rfl,rfl⟩,rfl⟩
  refine O.oo 7 H<|O.l (Lo.ca C222 (cf_from services 1 8) [] H H .nil) H ?_
  rintro _ _ ⟨_,⟨rfl,rfl⟩,rfl⟩
  refine O.oo 2 H ?_
  refine O.sp 40 H (fun h85=>?_) (fun h85=>?_)
  ·
   have h86:(Cf.from_ services 1 8)=false:=not_flip h85
   refine O.oc 27 H ?_
   exact J.r0 H H ⟨(by rw [Cf.check_no13 (by simp only [*,Bool.and_true,Bool.and_false,Bool.true_and,Bool.false_and])];rfl),H⟩
  have h87:(Cf.from_ services 1 8)=true:=not_flip h85
  refine O.oo 2 H<|O.gz (Pu.qt (Pu.sub' H H (by have h_:=Cf.from_bnd (by assumption:Cf.from_ services 1 8=true);omega))) H H<|O.gy (Lo.ca C222 (cf_from self 0 (services-1)) [] H H .nil) H H ?_
  rintro _ _ ⟨_,⟨rfl,rfl⟩,rfl⟩
  refine O.oo 3 H ?_
  refine O.sp 47 H (fun h89=>?_) (fun h89=>?_)
  ·
   have h90:(Cf.from_ self 0 (services-1))=false:=not_flip h89
   refine O.oc 20 H ?_
   exact J.r0 H H ⟨(by rw [Cf.check_no13 (by simp only [*,Bool.and_true,Bool.and_false,Bool.true_and,Bool.false_and])];rfl),H⟩
  have h91:(Cf.from_ self 0 (services-1))=true:=not_flip h89
  refine O.oc 20 H ?_
  exact J.r0 H H ⟨(by rw [Cf.check_no13 (by simp only [*,Bool.and_true,Bool.and_false,Bool.true_and,Bool.false_and])];rfl),H⟩
 refine O.oo 10 H<|O.l (Lo.ca C222 (cf_from services 1 8) [] H H .nil) H ?_
 rintro _ _ ⟨_,⟨rfl,rfl⟩,rfl⟩
 refine O.oo 2 H ?_
 refine O.sp 40 H (fun h93=>?_) (fun h93=>?_)
 ·
  have h94:(Cf.from_ services 1 8)=false:=not_flip h93
  refine O.oc 27 H ?_
  exact J.r0 H H ⟨(by rw [Cf.check_no13 (by simp only [*,Bool.and_true,Bool.and_false,Bool.true_and,Bool.false_and])];rfl),H⟩
 have h95:(Cf.from_ services 1 8)=true:=not_flip h93
 refine O.oo 2 H<|O.gz (Pu.qt (Pu.sub' H H (by have h_:=Cf.from_bnd (by assumption:Cf.from_ services 1 8=true);omega))) H H<|O.gy (Lo.ca C222 (cf_from self 0 (services-1)) [] H H .nil) H H ?_
 rintro _ _ ⟨_,⟨rfl,rfl⟩,rfl⟩
 refine O.oo 3 H ?_
 refine O.sp 47 H (fun h97=>?_) (fun h97=>?_)
 ·
  have h98:(Cf.from_ self 0 (services-1))=false:=not_flip h97
  refine O.oc 20 H ?_
  exact J.r0 H H ⟨(by rw [Cf.check_no13 (by simp only [*,Bool.and_true,Bool.and_false,Bool.true_and,Bool.false_and])];rfl),H⟩
 have h99:(Cf.from_ self 0 (services-1))=true:=not_flip h97
 refine O.oc 20 H ?_
 exact J.r0 H H ⟨(by rw [Cf.check_no13 (by simp only [*,Bool.and_true,Bool.and_false,Bool.true_and,Bool.false_and])];rfl),H⟩
end Go.Proofs.YtohjlkjhpibkmaaGreatDoor
