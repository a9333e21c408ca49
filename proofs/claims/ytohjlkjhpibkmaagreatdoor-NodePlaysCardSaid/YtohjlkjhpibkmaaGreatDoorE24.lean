/-
  Walks, printed by a program of mine.
-/
import Derived.KernelRfl
import Derived.Test.YtohjlkjhpibkmaaGreatDoorE16
import Derived.Test.YtohjlkjhpibkmaaGreatDoorE22
import Derived.Test.YtohjlkjhpibkmaaGreatDoorE13
import Derived.Test.YtohjlkjhpibkmaaGreatDoorE03
import Derived.Test.YtohjlkjhpibkmaaGreatDoorE23
set_option linter.all false
namespace Go.Proofs.YtohjlkjhpibkmaaGreatDoor
open Go Go.LK Go.Proofs.Tryz
set_option maxRecDepth 100000
set_option maxHeartbeats 4000000
def Dl(ej:Value)(f:List Int)(e:Int)(S:f.length≤100000):M prog 280 #[ej,e] [bF ej 1 (f.map bH)] [] (fun m B=>∃ d,m=.b d∧bn.oX f e d∧B=[]):=by
 refine M.aM func280 a ntmps280 a fun an=>?_
 refine aD 1 ?_
 refine de (bo:=Nat) (fun d=>d≤f.length∧∀ k,k < d→∀ F,f[k]?=some F→F≠e) (fun d=>[(8,.b (d:Int))]) (fun d=>[]) (fun d=>f.length-d) 0 [0,1,7] ⟨by omega,fun k ag=>absurd ag (ts _)⟩ ?_
 rintro d ⟨R,dy⟩
 refine aU ?_ ?_
 refine I 0 ?_
 intros
 obtain ⟨bP,dJ⟩:=c4 (f:=f) (b:=d) E
 refine aU ?_ ?_
 refine aF ?_
 intros
 exact aO ⟨_,a,bn.ans dy dJ E,a⟩
 refine I 1 ?_
 intros
 exact da (d+1) ⟨by omega,bn.anp dy dJ E⟩
 refine aF ?_
 intros
 exact aO ⟨_,a,bn.anq dy E,a⟩
def au1(ej:Value)(f:List Int)(e:Int)(S:f.length≤100000):M prog 346 #[ej,e] [bF ej 1 (f.map bH)] [] (fun m B=>m=.bool (decide (e∈f))∧B=[]):=by
 refine M.aM func346 a ntmps346 a fun an=>?_
 refine P Dl ?_
 rintro _ _ ⟨bJ,rfl,CT,rfl⟩
 refine aF ?_
 exact aO ⟨(by simp only [ed];congr 1;rw [decide_eq_decide];exact bn.AM CT),a⟩
def UU(br:Value)(f:List cj)(z:Int)(S:f.length≤1000)(aS:∀ H∈f,H.cW.length≤1000):M prog 300 #[br,z] [bF br 14 (f.map cj.cells),hZ (f.map cj.bF)] [] (fun m B=>B=[row m 3 1 ((dV.j5 (f_ f) z).map bH)]):=by
 have rR:=z1 (f:=f)
 refine M.aM func300 a ntmps300 a fun an=>?_
 refine aU (fun eC=>?_) (fun eC=>?_)
 refine w.dw 12 a ?_
 exact adw
 refine aU ?_ ?_
 intros
 refine K.fC 5 a ?_
 exact adw
 intros
 refine K.fC 3 a ?_
 obtain ⟨cP,il⟩:=c4 (f:=f) (b:=(z).toNat) E
 refine K.hZ 1 a (ar:=bF cP.dA 4 (cP.cW.map cG.cells)) (bx.2 ⟨cP,eF il,a⟩) ?_
 have IK:=aS _ (eF il)
 have pP:(cP.cW.map cG.O).length=cP.cW.length:=fc _
 refine I 0 ?_
 refine w.A (aV.jy st tN a (ax.b0 0 a) il a E) a ?_
 refine I 0 ?_
 refine w.A (aV.le isAgg54 (ax.b0 0 a) il 13 a E a) a<|w.A (aV.jN xV a (ax.b0 2 a)) a<|w.dw 3 a<|K.lC 3 1 ?_
 refine de (bo:=Nat×Value×List Int) (fun (d,X,v)=>d≤cP.cW.length∧v=dV.tS f.length (cP.cW.map cG.O) d∧v.length≤d) (fun (d,X,v)=>[(5,X),(23,.b (d:Int))]) (fun (d,X,v)=>[row X 3 1 (v.map bH)]) (fun (d,X,v)=>cP.cW.length-d) ⟨0,Value.slice none 0 0,[]⟩ [0,4,21,22] ⟨by omega,rfl,by simp⟩ ?_
 rintro ⟨d,X,v⟩ ⟨R,ci,gI⟩
 refine aU ?_ ?_
 refine I 0 ?_
 intros
 obtain ⟨dZ,ji⟩:=c4 (f:=cP.cW) (b:=d) E
 refine aD 5 ?_
 intros
 refine aU (fun j9=>?_) (fun j9=>?_)
 refine aU (fun kM=>?_) (fun kM=>?_)
 refine P au1 ?_
 refine I 0 ?_
 refine K.cond a (fun hN=>?_) (fun hN=>?_)
 have lR:(decide (dZ.O∈v))=false:=c_ hN
 have s4:=fa lR
 refine I 1 ?_
 refine w.f (aq.fs bH [dZ.O] gz dt iF a a a aN a a) a ?_
 rintro hc _ rfl
 refine aD 2 ?_
 intro pA
 exact da ⟨d+1,pA,v++([dZ.O])⟩ ⟨by omega,abE,hq⟩
 have yh:(decide (dZ.O∈v))=true:=c_ hN
 have FV:=dp yh
 exact R4
 exact R4
 exact R4
 refine aF ?_
 intros
 exact aO (dz (fun (aI:List Int)=>([row X 3 1 (aI.map bH)]:List aB)) (show v=dV.j5 (f_ f) z from (by rw [ci];have au:=dV.ahr (L:=(f_ f)) (d:=d) (cW:=(cP.cW.map cG.O)) (z:=z) E E (Nq il) E;rw [rR] at au;exact au)))
def ajC(br:Value)(f:List cj)(S:f.length≤1000)(aS:∀ H∈f,H.cW.length≤1000):M prog 299 #[br] [bF br 14 (f.map cj.cells),hZ (f.map cj.bF)] [] (fun m B=>B=[row m 3 1 ((dV.oL (f_ f) []).map bH)]):=by
 have rR:=z1 (f:=f)
 refine M.aM func299 a ntmps299 a fun an=>?_
 refine aD 1 ?_
 refine w.f (aq.yH (aI:=(0:Int)) (z:=bH) (t:=f.length) (H:=1) (bytes:=8) gz (fun j=>run_typeInfo j DN) GZ dt iF a a E E bd a a bd a) a ?_
 rintro kh _ rfl
 refine aD 1 ?_
 refine de (bo:=Nat×List Int) (fun (d,j)=>d≤f.length∧j=dV.pq (f_ f) d 0) (fun (d,j)=>[(12,.b (d:Int))]) (fun (d,j)=>[row kh 3 1 (j.map bH)]) (fun (d,j)=>f.length-d) ⟨0,List.replicate f.length (0:Int)⟩ [0,2,3,11] ⟨by omega,by rw [←rR];exact dV.aw0⟩ ?_
 rintro ⟨d,j⟩ ⟨R,bU⟩
 refine aU ?_ ?_
 refine I 0 ?_
 intros
 refine w.f (aq.fl call300 (UU br f (d:Int) S aS) [] a a (.b0 0 a (.b0 1 a .nil))) a ?_
 rintro xj _ ⟨_,rfl,rfl⟩
 refine aD 1 ?_
 refine de (bo:=Nat×List Int) (fun (A,k5)=>A≤(dV.j5 (f_ f) (d:Int)).length∧k5=dV.pq (f_ f) d A) (fun (A,k5)=>[(19,.b (A:Int))]) (fun (A,k5)=>[row kh 3 1 (k5.map bH)]) (fun (A,k5)=>(dV.j5 (f_ f) (d:Int)).length-A) ⟨0,j⟩ [0,2,3,11,12,17,18] ⟨by omega,bU⟩ ?_
 rintro ⟨A,k5⟩ ⟨a6,qu⟩
 refine aU ?_ ?_
 refine I 0 ?_
 intros
 obtain ⟨dZ,ji⟩:=c4 (f:=(dV.j5 (f_ f) (d:Int))) (b:=A) E
 refine aD 2 ?_
 obtain ⟨aoy,CI,pb⟩:=dV.ML ji
 have AJ:k5.length=f.length:=by rw [qu,dV.Z1,rR]
 obtain ⟨eE,jj⟩:=c4 (f:=k5) (b:=(dZ).toNat) E
 refine I 0 ?_
 refine w.A (aV.jy gz dt a (ax.row 0 a) jj a E) a<|w.A (aV.le ds (ax.row 0 a) jj 0 a E a) a<|w.n (U.hJ a a abL) a<|w.A (aV.jy gz dt a (ax.row 0 a) jj a E) a ?_
 refine w.cq (aq.jS 0 (k:=(dZ).toNat) (off:=0) (ae:=[.b (eE+1)]) (r:=[eE]) (eE+1) a a a a E jj a dt a a a a a) ?_
 rintro _ _ rfl
 refine I 0 ?_
 refine w.n (U.hJ a a abL) a ?_
 refine I 0 ?_
 exact da ⟨A+1,k5.set (dZ).toNat (eE+1)⟩ ⟨by omega,(by rw [qu];exact dV.awY ji (by rw [←qu];exact jj))⟩
 refine I 1 ?_
 intros
 exact da ⟨d+1,k5⟩ ⟨by omega,(by rw [qu];exact dV.awZ E)⟩
 refine aF ?_
 intros
 exact aO (dz (fun (aI:List Int)=>([row kh 3 1 (aI.map bH)]:List aB)) (show j=dV.oL (f_ f) [] from (by rw [bU,show d=(f_ f).length from by omega];exact dV.awW)))
def ajB(br:Value)(f:List cj)(S:f.length≤1000)(aS:∀ H∈f,H.cW.length≤1000):M prog 224 #[br] [bF br 14 (f.map cj.cells),hZ (f.map cj.bF)] [] (fun m B=>∃ eJ,m=.tuple #[eJ,.b (dV.loops (f_ f))]∧B=[row eJ 3 1 ((dV.Da (f_ f)).map bH)]):=by
 have rR:=z1 (f:=f)
 refine M.aM func224 a ntmps224 a fun an=>?_
 refine I 0 ?_
 refine w.f (aq.fl call299 (ajC br f S aS) [] a a (.b0 0 a (.b0 1 a .nil))) a ?_
 rintro ti _ ⟨_,rfl,rfl⟩
 refine I 0 ?_
 refine w.A (aV.jN st a (ax.b0 0 a)) a<|w.dw 3 a<|K.lC 3 1 ?_
 refine de (bo:=Nat×Value×List Int×List Nat×List Int) (fun (d,X,aG,v,j)=>d≤f.length∧dV.jp (f_ f) d=some v∧aG=v.map (fun (s:Nat)=>(s:Int))∧j=dV.oL (f_ f) v) (fun (d,X,aG,v,j)=>[(4,X),(13,.b (d:Int))]) (fun (d,X,aG,v,j)=>[row X 3 1 (aG.map bH),row ti 3 1 (j.map bH)]) (fun (d,X,aG,v,j)=>f.length-d) ⟨0,Value.slice none 0 0,[],[],dV.oL (f_ f) []⟩ [0,5,12] ⟨by omega,rfl,rfl,rfl⟩ ?_ ⟨a,(hM E),trivial⟩
 rintro ⟨d,X,aG,v,j⟩ ⟨R,bw,bp,bU⟩
 refine aU ?_ ?_
 refine aD 0 ?_
 intros
 refine P (Dl ti j 0 (by first|omega|(rw [bU,dV.O8];omega)|(rw [bp,fc,dV.PE bw];omega))) ?_
 rintro _ _ ⟨b4,rfl,hx4,rfl⟩
 refine aU ?_ ?_
 intros
 refine K.fC 5 a<|K.fg 3 1 (([]:List Int).map bH) a ?_
 refine aF ?_
 exact aO ⟨Value.slice none 0 0,(by rw [dV.Xc (dV.XQ bw (dV.WC Rp E) E)];rfl),(dz (fun (aI:List Int)=>([row (Value.slice none 0 0) 3 1 (aI.map bH)]:List aB)) (dV.arv (dV.XQ bw (dV.WC Rp E) E)).symm)⟩
 refine I 0 ?_
 intros
 obtain ⟨n,rfl,ad⟩:=dV.anr Rp E
 have OB:=(dV.A5 ad).1
 have aAG:j.length=f.length:=by rw [bU,dV.O8,rR]
 refine I 0 ?_
 obtain ⟨na,qq⟩:=c4 (f:=j) (b:=n) E
 refine aD 1 ?_
 refine w.cq (aq.jS 1 (k:=n) (off:=0) (ae:=[.b (-1)]) (r:=[na]) (-1) a a a a E qq a dt a a a a a) ?_
 rintro _ _ rfl
 refine I 0 ?_
 refine w.f (aq.fl call300 (UU br f (n:Int) S aS) [] a a (.b0 0 a (.b0 1 a .nil))) a ?_
 rintro ZR _ ⟨_,rfl,rfl⟩
 refine aD 1 ?_
 refine K.gw (bo:=Nat×List Int) (fun (A,k5)=>A≤(dV.j5 (f_ f) (n:Int)).length∧k5=dV.sZ (f_ f) v n A) (fun (A,k5)=>[(26,.b (A:Int))]) (fun (A,k5)=>[row ti 3 1 (k5.map bH)]) (fun (A,k5)=>(dV.j5 (f_ f) (n:Int)).length-A) ⟨0,j.set n (-1)⟩ [0,4,5,6,12,13,24,25] [2] [1,0] ⟨by omega,(by rw [bU];exact dV.api)⟩ ⟨(hM E),trivial⟩ a a ?_
 rintro ⟨A,k5⟩ ⟨a6,qu⟩
 refine aU ?_ ?_
 refine I 0 ?_
 intros
 obtain ⟨jG,yn⟩:=c4 (f:=(dV.j5 (f_ f) (n:Int))) (b:=A) E
 refine aD 2 ?_
 obtain ⟨aoy,CI,pb⟩:=dV.ML yn
 have AJ:k5.length=f.length:=by rw [qu,dV.W',rR]
 obtain ⟨mc,q1⟩:=c4 (f:=k5) (b:=(jG).toNat) E
 refine I 0 ?_
 refine w.A (aV.jy gz dt a (ax.row 0 a) q1 a E) a<|w.A (aV.le ds (ax.row 0 a) q1 0 a E a) a<|w.n (U.lG a a abK) a<|w.A (aV.jy gz dt a (ax.row 0 a) q1 a E) a ?_
 refine w.cq (aq.jS 0 (k:=(jG).toNat) (off:=0) (ae:=[.b (mc-1)]) (r:=[mc]) (mc-1) a a a a E q1 a dt a a a a a) ?_
 rintro _ _ rfl
 refine I 0 ?_
 refine w.n (U.hJ a a abK) a ?_
 refine I 0 ?_
 exact da ⟨A+1,k5.set (jG).toNat (mc-1)⟩ ⟨by omega,(by rw [qu];exact dV.aph bw ad yn (by rw [←qu];exact q1))⟩
 refine I 0 ?_
 intros
 refine w.f (aq.fs bH [(n:Int)] gz dt iF a a a aN a a) a ?_
 rintro pA _ rfl
 refine w.f (aq.gg 2 qN nE a a a a a (ax.row 0 a) bH.one aaW aaW) a ?_
 rintro wt _ rfl
 refine I 1 ?_
 exact da ⟨d+1,wt,aG++([(n:Int)]),v++[n],k5⟩ ⟨by omega,dV.ary bw ad,(by rw [bp];simp),(by rw [qu];exact dV.apg ad E)⟩
 refine aF ?_
 intros
 exact aO ⟨X,(by rw [dV.O_ (show dV.jp (f_ f) (f_ f).length=some v from DS)];rfl),(dz (fun (aI:List Int)=>([row X 3 1 (aI.map bH)]:List aB)) (show aG=dV.Da (f_ f) from (by rw [dV.arw (show dV.jp (f_ f) (f_ f).length=some v from DS),bp])))⟩
def ajA(br:Value)(f:List cj)(S:f.length≤1000)(aS:∀ H∈f,H.cW.length≤1000):M prog 127 #[br] [bF br 14 (f.map cj.cells),hZ (f.map cj.bF)] [] (fun m B=>m=.b (dV.loops (f_ f))∧B=[]):=by
 have rR:=z1 (f:=f)
 refine M.aM func127 a ntmps127 a fun an=>?_
 refine P ajB ?_
 exact cH
end Go.Proofs.YtohjlkjhpibkmaaGreatDoor
