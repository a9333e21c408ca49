/-
  Walks, printed by a program of mine.
-/
import Derived.KernelRfl
import Derived.Test.YtohjlkjhpibkmaaGreatDoorE16
import Derived.Test.YtohjlkjhpibkmaaGreatDoorE24
import Derived.Test.YtohjlkjhpibkmaaGreatDoorE13
import Derived.Test.YtohjlkjhpibkmaaGreatDoorE90
import Derived.Test.YtohjlkjhpibkmaaGreatDoorE04
import Derived.Test.YtohjlkjhpibkmaaGreatDoorE12
import Derived.Test.YtohjlkjhpibkmaaGreatDoorE21
import Derived.Test.YtohjlkjhpibkmaaGreatDoorE14
set_option linter.all false
namespace Go.Proofs.YtohjlkjhpibkmaaGreatDoor
open Go Go.LK Go.Proofs.Tryz
set_option maxRecDepth 100000
set_option maxHeartbeats 4000000
def Ii(f:List Int):(f.map bH).flatten=f.map (Value.int .i64):=by
  induction f with
  | nil=>rfl
  | cons e f b6=>simp only [kO,DC,b6];rfl
def YR{j:World}{L cap s:Nat}{r:TypeId}{os:Array Obj}{fF:Array Value}{iM eW th:List Int}(S:eW.length=iM.length)(bp:th=eW.take th.length)(bq:j.heap[L]?=some (.cells fF r (0,0)))(G:iM.length≤cap)(J:cap≤maxLen)(aA:fF.size=cap*1) :
    (row (.slice (some ⟨L,0,none⟩) th.length cap) r 1 (th.map bH)).holds (Go.Sort.grow (Go.Sort.putRow (Value.int .i64) (Go.Sort.ahead j s) L 0 eW.toArray) os):=by
  have al5:th.length≤eW.length:=by rw [bp,ib];omega
  refine ⟨⟨by rw [Ii];simp,.inr ⟨L,cap,_,by rw [fc],GG _,heap_sortedI _ bq,by rw [fc];omega,J,by simp [Go.Sort.putCells,aA],?_⟩⟩,fun e Q=>?_⟩
  · rw [Ii,fc,QQ]
    have bA:=take_putCellsI fF eW E
    have:=dz (List.take th.length) bA
    rw [GK,DI al5,←KU,←bp] at this
    exact this
  · obtain ⟨F,_,rfl⟩:=bx.1 Q;rfl
def Zs{j:World}{bL:List Nat}{L s:Nat}{os:Array Obj}{y:Array Int}{ar:aB}(hl:bL=[L])(bI:ar.dT=[L])(d_:ar.holds (Go.Sort.grow (Go.Sort.putRow (Value.int .i64) (Go.Sort.ahead j s) L 0 y) os)):cl j bL [ar] (Go.Sort.grow (Go.Sort.putRow (Value.int .i64) (Go.Sort.ahead j s) L 0 y) os):=by
 subst hl
 have av:=grownBy_sortedI (w:=j) (g:=L) (n:=s) (os:=os) y
 refine ⟨⟨av.os,av.tape,av.output,av.size,fun d R aw=>av.block d R fun aC=>aw (by simp at aC;simp [aC])⟩,by simpa using d_,by simp,fun d R=>.inr ?_⟩
 rw [ya,bI] at R
 simpa using R
def P_(X:Value)(iM:List Int)(S:iM.length≤1000000):M prog 274 #[X] [] [row X 3 1 (iM.map bH)] (fun m B=>m=.tuple #[]∧B=[row X 3 1 ((iM.mergeSort (fun e F=>decide (e≤F))).map bH)]):=fun j _ ci=>by
  obtain ⟨bw,_⟩:=ci.cC _ (GN _)
  rcases bw.2 with ⟨rfl,aw⟩|⟨L,cap,fF,rfl,_,bq,pT,pP,jb,pg⟩
  · have:iM=[]:=by simpa using aw
    subst this
    exact (slices_Sort_int_none none 0 j).mono fun r bQ ⟨aC,bU⟩=>⟨_,_,aC,⟨rfl,rfl⟩,by subst bU;simpa using ci⟩
  · rw [fc] at pT pg
    rw [Ii,QQ] at pg
    have av:L < j.heap.size:=(qE.1 bq).1
    rw [fc] at ci ⊢
    refine (slices_Sort_int L 0 cap iM j (holds_of_blockI bq pg) av E).mono fun r bQ ⟨aC,s,os,bU⟩=>⟨_,_,aC,⟨rfl,rfl⟩,?_⟩
    subst bU
    have W:=YR (th:=iM.mergeSort (fun e F=>decide (e≤F))) (eW:=iM.mergeSort (fun e F=>decide (e≤F))) (s:=s) (os:=os) (tm iM) (by rw [DG]) bq pT pP jb
    rw [tm] at W
    exact Zs rfl rfl W
def Zb(X:Value)(iM:List Int)(S:iM.length≤1000000):M prog 278 #[X] [] [row X 3 1 (iM.map bH)] (fun m B=>B=[row m 3 1 ((Go.Lib.compact iM).map bH)]):=fun j _ ci=>by
  obtain ⟨bw,_⟩:=ci.cC _ (GN _)
  rcases bw.2 with ⟨rfl,aw⟩|⟨L,cap,fF,rfl,_,bq,pT,pP,jb,pg⟩
  · have:iM=[]:=by simpa using aw
    subst this
    exact (slices_Compact_int_empty none 0 j).mono fun r bQ ⟨aC,bU⟩=>⟨_,_,aC,rfl,by subst bU;simpa [Go.Lib.compact,Go.Lib.compactUpTo] using ci⟩
  · rw [fc] at pT pg
    rw [Ii,QQ] at pg
    rw [fc] at ci ⊢
    refine (slices_Compact_int L 0 cap iM j (holds_of_blockI bq pg) E pT).mono fun r bQ ⟨aC,s,bU⟩=>⟨_,_,aC,rfl,?_⟩
    subst bU
    have h9:=Go.Lib.compact_length_le iM
    have W:=YR (th:=Go.Lib.compact iM) (eW:=Go.Lib.compact iM++List.replicate (iM.length-(Go.Lib.compact iM).length) 0) (s:=s) (os:=#[]) (iM:=iM) v1 (by rw [K6]) bq pT pP jb
    rw [Go.Sort.grow_empty] at W
    have J:=Zs (j:=j) (os:=#[]) (s:=s) (y:=(Go.Lib.compact iM++List.replicate (iM.length-(Go.Lib.compact iM).length) 0).toArray) (bL:=[L]) (L:=L) (ar:=row (.slice (some ⟨L,0,none⟩) (Go.Lib.compact iM).length cap) 3 1 ((Go.Lib.compact iM).map bH)) rfl rfl (by rw [Go.Sort.grow_empty];exact W)
    rw [Go.Sort.grow_empty] at J
    exact J
def OV(code:Int):M prog 281 #[code] [] [] (fun m B=>m=.tuple #[.agg #[.b 0,.b 0,.b 0,.b 0,.b 0,.b 0,.b 0,.b 0,Value.slice none 0 0],code]∧B=[]):=by
 refine M.aM func281 a ntmps281 a fun an=>?_
 exact cH
def WQ(bK bV b8 bG ch b' cf:Int)(bg:Int)(fV jd:Value)(f:List Int)(a6:Value.oneCell' fV=true)(ea:f≠[]):M prog 277 #[.agg #[bK,bV,b8,bG,ch,b',cf,bg,fV],jd] [] [row jd 3 1 (f.map bH)] (fun m B=>m=.tuple #[.agg #[bK,bV,b8,bG,ch,b',cf,.b 2,jd],.b 0]∧B=[row jd 3 1 (f.map bH)]):=by
 refine M.aM func277 a ntmps277 a fun an=>?_
 refine I 2 ?_
 intros
 refine w.A (aV.jN gz a (ax.row 2 a)) a ?_
 refine I 0 ?_
 refine K.fZ a (p4 (by have au:=GI.2 ea;omega)) ?_
 refine I 1 ?_
 refine w.one (ax.row 2 a) (fun Ad=>?_)
 exact cH
def WR(bK bV b8 bG ch b' cf:Int)(bg:Int)(fV jd:Value)(a6:Value.oneCell' fV=true):M prog 277 #[.agg #[bK,bV,b8,bG,ch,b',cf,bg,fV],jd] [] [row jd 3 1 (([]:List Int).map bH)] (fun m B=>m=.tuple #[.agg #[.b 0,.b 0,.b 0,.b 0,.b 0,.b 0,.b 0,.b 0,Value.slice none 0 0],.b 1]∧B=[]):=by
 refine M.aM func277 a ntmps277 a fun an=>?_
 refine P OV ?_
 exact cH
def anX(rK oC:Nat)(bK bV b8 bG ch b' cf:Int)(bg:Int)(fV X:Value)(f:List Int)(a6:Value.oneCell' fV=true)(S:f.length≤1000)(ea:f≠[]):M prog 276 #[rK,oC] [] [ai rK [bK,bV,b8,bG,ch,b',cf,bg,fV] 68,ai oC [X] 60,row X 3 1 ((f.mergeSort (fun e F=>decide (e≤F))).map bH)] (fun m B=>∃ eJ,m=.tuple #[.agg #[bK,bV,b8,bG,ch,b',cf,.b 2,eJ],.b 0]∧B=[row eJ 3 1 ((bn.rising f).map bH)]):=by
 refine M.aM func276 a ntmps276 a fun an=>?_
 refine I 1 ?_
 intros
 refine K.ef (df [(0,3),(3,0),(4,0),(5,2),(7,0),(8,1)]) [1,2] Tryz.bE aN a<|aL.A a (aV.nG 0 zt j3 a a a) a<|aL.n a (U.build [(0,.agg #[bK,bV,b8,bG,ch,b',cf,bg,fV])] [bK,bV,b8,bG,ch,b',cf,bg,fV] #[(0,9)] Et Ex (F3 Ec) a aa5) a<|aL.A a (aV.br 1 isAgg60 a a a) a ?_
 refine aL.f a (aq.fl call278 (Zb X (f.mergeSort (fun e F=>decide (e≤F))) (by first|omega|(rw [tm];omega)|(have au:=bn.YB (f:=f);omega))) [3] a a .nil) a ?_
 rintro iK _ ⟨_,rfl,rfl⟩
 refine P (WQ bK bV b8 bG ch b' cf bg fV iK (Go.Lib.compact (f.mergeSort (fun e F=>decide (e≤F)))) a6 (by rw [bn.MY];exact fun au=>ea (bn.atI.1 au))) ?_
 refine aD 1 ?_
 refine aL.one a (fun _ c=>by cases c<;>rfl) (ax.row 0 a) (fun yj=>?_)
 refine aL.cq a (aq.dC 1 j3 a a a a a (by simp only [k8,ri,jV,yj]<;>rfl) a) ?_
 rintro _ _ rfl
 refine gr.iS [2,3] a aN<|aL.Z 1 a<|aL.nil ?_
 exact K.lE [_,_] [0] a ⟨⟨_,_,0,0,_,a,(eZ.ai 1 a),a,(fr.agg [bK,bV,b8,bG,ch,b',cf,.b 2,iK] zt j3 a a)⟩,a,trivial⟩ a ⟨iK,a,(by rw [bn.MY])⟩
def anY(rK oC:Nat)(bK bV b8 bG ch b' cf:Int)(bg:Int)(fV X:Value)(a6:Value.oneCell' fV=true):M prog 276 #[rK,oC] [] [ai rK [bK,bV,b8,bG,ch,b',cf,bg,fV] 68,ai oC [X] 60,row X 3 1 ((([]:List Int).mergeSort (fun e F=>decide (e≤F))).map bH)] (fun m B=>m=.tuple #[.agg #[.b 0,.b 0,.b 0,.b 0,.b 0,.b 0,.b 0,.b 0,Value.slice none 0 0],.b 1]∧B=[]):=by
 refine M.aM func276 a ntmps276 a fun an=>?_
 refine I 1 ?_
 intros
 refine K.ef (df [(0,3),(3,0),(4,0),(5,2),(7,0),(8,1)]) [1,2] Tryz.bE aN a<|aL.A a (aV.nG 0 zt j3 a a a) a<|aL.n a (U.build [(0,.agg #[bK,bV,b8,bG,ch,b',cf,bg,fV])] [bK,bV,b8,bG,ch,b',cf,bg,fV] #[(0,9)] Et Ex (F3 Ec) a aa5) a<|aL.A a (aV.br 1 isAgg60 a a a) a ?_
 refine aL.f a (aq.fl call278 (Zb X (([]:List Int).mergeSort (fun e F=>decide (e≤F))) (by (rw [tm];decide))) [3] a a .nil) a ?_
 rintro iK _ ⟨_,rfl,rfl⟩
 refine P (cast (dz (fun aI=>M prog 277 #[.agg #[bK,bV,b8,bG,ch,b',cf,bg,fV],iK] [] [row iK 3 1 (aI.map bH)] _) ((bn.MY []).symm:([]:List Int)=Go.Lib.compact (([]:List Int).mergeSort (fun e F=>decide (e≤F))))) (WR bK bV b8 bG ch b' cf bg fV iK a6)) ?_
 exact cH
def an1(rK oC:Nat)(bK bV b8 bG ch b' cf:Int)(fV X:Value)(f:List Int)(a6:Value.oneCell' fV=true)(S:f.length≤1000)(ea:f≠[]):M prog 275 #[.agg #[bK,bV,b8,bG,ch,b',cf,.b 1,fV],.func (.func 276) #[] #[rK,oC]] [] [ai rK [bK,bV,b8,bG,ch,b',cf,.b 1,fV] 68,ai oC [X] 60,row X 3 1 ((f.mergeSort (fun e F=>decide (e≤F))).map bH)] (fun m B=>∃ eJ,m=.tuple #[.agg #[bK,bV,b8,bG,ch,b',cf,.b 2,eJ],.b 0,.b 0]∧B=[row eJ 3 1 ((bn.rising f).map bH)]):=by
 refine M.aM func275 a ntmps275 a fun an=>?_
 refine I 3 ?_
 intros
 refine w.f (aq.dA call276 a a (anX rK oC bK bV b8 bG ch b' cf 1 fV X f a6 E ea) [2,3,4] a .nil) a ?_
 rintro _ _ ⟨_,⟨u0,rfl,rfl⟩,rfl⟩
 refine I 1 ?_
 intros
 refine w.one (ax.row 1 a) (fun o_=>?_)
 refine aF ?_
 exact aO ⟨u0,a,a⟩
def an0(rK oC:Nat)(bK bV b8 bG ch b' cf:Int)(fV X:Value)(a6:Value.oneCell' fV=true):M prog 275 #[.agg #[bK,bV,b8,bG,ch,b',cf,.b 1,fV],.func (.func 276) #[] #[rK,oC]] [] [ai rK [bK,bV,b8,bG,ch,b',cf,.b 1,fV] 68,ai oC [X] 60,row X 3 1 ((([]:List Int).mergeSort (fun e F=>decide (e≤F))).map bH)] (fun m B=>m=.tuple #[.agg #[.b 0,.b 0,.b 0,.b 0,.b 0,.b 0,.b 0,.b 0,Value.slice none 0 0],.b 1,.b 0]∧B=[]):=by
 refine M.aM func275 a ntmps275 a fun an=>?_
 refine I 3 ?_
 intros
 refine w.f (aq.dA call276 a a (anY rK oC bK bV b8 bG ch b' cf 1 fV X a6) [2,3,4] a .nil) a ?_
 exact RO
def anW(bK bV b8 bG ch b' cf:Int)(bg:Int)(fV:Value)(a6:Value.oneCell' fV=true):M prog 279 #[.agg #[bK,bV,b8,bG,ch,b',cf,bg,fV]] [] [] (fun m B=>m=.tuple #[.agg #[.b 0,.b 0,.b 0,.b 0,.b 0,.b 0,.b 0,.b 0,Value.slice none 0 0],.b 10]∧B=[]):=by
 refine M.aM func279 a ntmps279 a fun an=>?_
 refine P OV ?_
 exact cH
def anZ(bK bV b8 bG ch b' cf:Int)(fV:Value)(a6:Value.oneCell' fV=true):M prog 275 #[.agg #[bK,bV,b8,bG,ch,b',cf,.b 1,fV],.func (.func 279) #[.agg #[bK,bV,b8,bG,ch,b',cf,.b 1,fV]] #[]] [] [] (fun m B=>m=.tuple #[.agg #[.b 0,.b 0,.b 0,.b 0,.b 0,.b 0,.b 0,.b 0,Value.slice none 0 0],.b 10,.b 0]∧B=[]):=by
 refine M.aM func275 a ntmps275 a fun an=>?_
 refine I 3 ?_
 intros
 refine w.f (aq.MP call279 a a (anW bK bV b8 bG ch b' cf 1 fV a6) [] a .nil) a ?_
 exact RO
def WK(bK bV b8 bG ch b' cf:Int)(fV br:Value)(f:List Int)(a6:Value.oneCell' fV=true)(S:f.length≤1000)(ea:f≠[]):M prog 193 #[.agg #[bK,bV,b8,bG,ch,b',cf,.b 1,fV],br] [bF br 1 (f.map bH)] [] (fun m B=>∃ eJ,m=.tuple #[.agg #[bK,bV,b8,bG,ch,b',cf,.b 2,eJ],.b 0,.b 0]∧B=[row eJ 3 1 ((bn.rising f).map bH)]):=by
 refine M.aM func193 a ntmps193 a fun an=>?_
 refine I 2 ?_
 intro b9 _
 refine w.f (aq.tQ bH gz dt) a ?_
 rintro u0 _ rfl
 refine aD 2 ?_
 intro fd qm
 refine w.one (ax.row 1 a) (fun o_=>?_)
 refine w.cq (aq.gy 0 tO o_ a a a a) ?_
 rintro _ _ rfl
 refine P P_ ?_
 refine I 1 ?_
 refine w.n (U.makeFunc [b9,qm] a) a ?_
 refine P an1 ?_
 refine I 0 ?_
 intro j1
 refine w.one (ax.row 0 a) (fun va=>?_)
 refine aF ?_
 exact aO ⟨j1,a,a⟩
def anP(bK bV b8 bG ch b' cf:Int)(fV br:Value)(a6:Value.oneCell' fV=true):M prog 193 #[.agg #[bK,bV,b8,bG,ch,b',cf,.b 1,fV],br] [bF br 1 (([]:List Int).map bH)] [] (fun m B=>m=.tuple #[.agg #[.b 0,.b 0,.b 0,.b 0,.b 0,.b 0,.b 0,.b 0,Value.slice none 0 0],.b 1,.b 0]∧B=[]):=by
 refine M.aM func193 a ntmps193 a fun an=>?_
 refine I 2 ?_
 intro b9 _
 refine w.f (aq.tQ bH gz dt) a ?_
 rintro u0 _ rfl
 refine aD 2 ?_
 intro fd qm
 refine w.one (ax.row 1 a) (fun o_=>?_)
 refine w.cq (aq.gy 0 tO o_ a a a a) ?_
 rintro _ _ rfl
 refine P P_ ?_
 refine I 1 ?_
 refine w.n (U.makeFunc [b9,qm] a) a ?_
 refine P an0 ?_
 exact cH
def anO(bK bV b8 bG ch b' cf:Int)(fV:Value)(a6:Value.oneCell' fV=true):M prog 195 #[.agg #[bK,bV,b8,bG,ch,b',cf,.b 1,fV]] [] [] (fun m B=>m=.tuple #[.b 10,.b 0]∧B=[]):=by
 refine M.aM func195 a ntmps195 a fun an=>?_
 refine aD 3 ?_
 intros
 refine w.n (U.Pc [.agg #[bK,bV,b8,bG,ch,b',cf,.b 1,fV]] [] a a) a ?_
 refine P anZ ?_
 exact cH
def Jc(bK bV b8 bG ch b' cf:Int)(bg:Int)(hg:Value)(f:List Int)(i code:Int)(S:f.length≤1000)(bh:bg≠2∨i∉f):M prog 201 #[.agg #[bK,bV,b8,bG,ch,b',cf,bg,hg],i,code] [bF hg 1 (f.map bH)] [] (fun m B=>∃ eJ,m=.tuple #[.agg #[bK,bV,b8,bG,ch,b',cf,bg,eJ],.b 0]∧B=[row eJ 3 1 (f.map bH)]):=by
 refine M.aM func201 a ntmps201 a fun an=>?_
 refine I 0 ?_
 refine w.one (ax.b0 0 a) (fun n8=>?_)
 refine aD 3 ?_
 intros
 refine P Dl ?_
 rintro _ _ ⟨bY,rfl,q7,rfl⟩
 refine aU (fun j9=>?_) (fun j9=>?_)
 refine I 1 ?_
 refine w.fg 3 1 (([]:List Int).map bH) a ?_
 refine aD 1 ?_
 intro j1
 refine w.one (ax.row 0 a) (fun Cy=>?_)
 refine w.cq (aq.gy 2 tO Cy a a a a) ?_
 rintro _ _ rfl
 refine aF ?_
 exact aO ⟨j1,a,a⟩
 refine aU ?_ ?_
 refine I 1 ?_
 intros
 refine w.fg 3 1 (([]:List Int).map bH) a ?_
 refine aD 1 ?_
 intro qg
 refine w.one (ax.row 0 a) (fun t_=>?_)
 refine w.cq (aq.gy 2 tO t_ a a a a) ?_
 rintro _ _ rfl
 refine aF ?_
 exact aO ⟨qg,a,a⟩
 intros
 exact absurd ((bn.AM (bO:bn.oX f i _)).1 E) (bh.resolve_left E)
def anT(bK bV b8 bG ch b' cf:Int)(hg:Value)(f:List Int)(i code:Int)(S:f.length≤1000)(bh:i∈f)(aS:code≠1):M prog 201 #[.agg #[bK,bV,b8,bG,ch,b',cf,.b 2,hg],i,code] [bF hg 1 (f.map bH)] [] (fun m B=>m=.tuple #[.agg #[.b 0,.b 0,.b 0,.b 0,.b 0,.b 0,.b 0,.b 0,Value.slice none 0 0],.b 7]∧B=[]):=by
 refine M.aM func201 a ntmps201 a fun an=>?_
 refine I 0 ?_
 refine w.one (ax.b0 0 a) (fun n8=>?_)
 refine aD 3 ?_
 intros
 refine P Dl ?_
 rintro _ _ ⟨bY,rfl,q7,rfl⟩
 refine I 1 ?_
 refine K.fZ a (p4 Rh) ?_
 refine I 0 ?_
 refine K.lN a (c9 aS) ?_
 refine P OV ?_
 exact cH
def anS(bK bV b8 bG ch b' cf:Int)(hg:Value)(f:List Int)(i:Int)(S:f.length≤1000)(bh:i∈f)(bp:bn.jD f)(ea:bn.c8 f i≠[]):M prog 201 #[.agg #[bK,bV,b8,bG,ch,b',cf,.b 2,hg],i,.b 1] [bF hg 1 (f.map bH)] [] (fun m B=>∃ eJ,m=.tuple #[.agg #[bK,bV,b8,bG,ch,b',cf,.b 2,eJ],.b 0]∧B=[row eJ 3 1 ((bn.c8 f i).map bH)]):=by
 refine M.aM func201 a ntmps201 a fun an=>?_
 refine I 0 ?_
 refine w.one (ax.b0 0 a) (fun n8=>?_)
 refine aD 3 ?_
 intros
 refine P Dl ?_
 rintro _ _ ⟨bY,rfl,q7,rfl⟩
 refine I 1 ?_
 refine K.fZ a (p4 Rh) ?_
 refine I 0 ?_
 refine w.f (aq.tQ bH gz dt) a ?_
 rintro zI _ rfl
 refine I 1 ?_
 refine w.A (aV.tT gz dt a (ax.b0 0 a) a mS mS) a ?_
 refine w.f (aq.gg 0 qN nE a a a a a (ax.head (f:=f) (ax.b0 0 a) mS) bH.one mS mS) a ?_
 rintro j1 _ rfl
 refine I 0 ?_
 refine K.ef (df [(0,8),(8,0),(9,0),(10,2),(12,0),(13,1)]) [2] Tryz.bE aN a<|aL.A a (aV.nG 0 zt j3 a a a) a<|aL.n a (U.build [(0,.agg #[bK,bV,b8,bG,ch,b',cf,.b 2,hg])] [bK,bV,b8,bG,ch,b',cf,.b 2,hg] #[(0,9)] Et Ex (F3 Ec) a aa4) a<|aL.Z 2 a<|aL.A a (aV.br 0 isAgg60 a a a) a<|aL.Z 1 a<|aL.n a (U.hJ a a mS) a<|aL.A a (aV.tU gz dt a (ax.b0 0 a) a mS mS) a ?_
 refine aL.f a (aq.gg 0 qN nE a a a a a (ax.tail (f:=f) (ax.b0 0 a) mS a) bH.one mS mS) a ?_
 rintro k' _ rfl
 refine gr.kV [2] [0] a a ?_
 refine P (WQ bK bV b8 bG ch b' cf 2 hg k' ((([]:List Int)++(f.take (bY).toNat))++(f.drop (bY+1).toNat)) n8 (by rw [lK,bn.M6 bp (bO:bn.oX f i _) ((bn.AM (bO:bn.oX f i _)).2 bh)];exact ea)) ?_
 refine aD 1 ?_
 refine aL.one a (fun _ c=>by cases c<;>rfl) (ax.row 0 a) (fun Aa=>?_)
 refine aL.cq a (aq.dC 1 j3 a a a a a (by simp only [k8,ri,jV,Aa]<;>rfl) a) ?_
 rintro _ _ rfl
 refine gr.iS [2] a aN<|aL.Z 1 a<|aL.nil ?_
 exact K.lE [_,_] [0] a ⟨⟨_,_,0,0,_,a,(eZ.ai 1 a),a,(fr.agg [bK,bV,b8,bG,ch,b',cf,.b 2,k'] zt j3 a a)⟩,a,trivial⟩ a ⟨k',a,(by rw [lK,bn.M6 bp (bO:bn.oX f i _) ((bn.AM (bO:bn.oX f i _)).2 bh)])⟩
def anU(bK bV b8 bG ch b' cf:Int)(hg:Value)(f:List Int)(i:Int)(S:f.length≤1000)(bh:i∈f)(bp:bn.jD f)(aC:bn.c8 f i=[]):M prog 201 #[.agg #[bK,bV,b8,bG,ch,b',cf,.b 2,hg],i,.b 1] [bF hg 1 (f.map bH)] [] (fun m B=>m=.tuple #[.agg #[.b 0,.b 0,.b 0,.b 0,.b 0,.b 0,.b 0,.b 0,Value.slice none 0 0],.b 1]∧B=[]):=by
 refine M.aM func201 a ntmps201 a fun an=>?_
 refine I 0 ?_
 refine w.one (ax.b0 0 a) (fun n8=>?_)
 refine aD 3 ?_
 intros
 refine P Dl ?_
 rintro _ _ ⟨bY,rfl,q7,rfl⟩
 refine I 1 ?_
 refine K.fZ a (p4 Rh) ?_
 refine I 0 ?_
 refine w.f (aq.tQ bH gz dt) a ?_
 rintro zI _ rfl
 refine I 1 ?_
 refine w.A (aV.tT gz dt a (ax.b0 0 a) a mS mS) a ?_
 refine w.f (aq.gg 0 qN nE a a a a a (ax.head (f:=f) (ax.b0 0 a) mS) bH.one mS mS) a ?_
 rintro j1 _ rfl
 refine I 0 ?_
 refine K.ef (df [(0,8),(8,0),(9,0),(10,2),(12,0),(13,1)]) [2] Tryz.bE aN a<|aL.A a (aV.nG 0 zt j3 a a a) a<|aL.n a (U.build [(0,.agg #[bK,bV,b8,bG,ch,b',cf,.b 2,hg])] [bK,bV,b8,bG,ch,b',cf,.b 2,hg] #[(0,9)] Et Ex (F3 Ec) a aa4) a<|aL.Z 2 a<|aL.A a (aV.br 0 isAgg60 a a a) a<|aL.Z 1 a<|aL.n a (U.hJ a a mS) a<|aL.A a (aV.tU gz dt a (ax.b0 0 a) a mS mS) a ?_
 refine aL.f a (aq.gg 0 qN nE a a a a a (ax.tail (f:=f) (ax.b0 0 a) mS a) bH.one mS mS) a ?_
 rintro k' _ rfl
 refine gr.kV [2] [0] a a ?_
 refine P (cast (dz (fun aI=>M prog 277 #[.agg #[bK,bV,b8,bG,ch,b',cf,.b 2,hg],k'] [] [row k' 3 1 (aI.map bH)] _) ((by rw [lK,bn.M6 bp (bO:bn.oX f i _) ((bn.AM (bO:bn.oX f i _)).2 bh)];exact aC.symm):([]:List Int)=(([]:List Int)++(f.take (bY).toNat))++(f.drop (bY+1).toNat))) (WR bK bV b8 bG ch b' cf 2 hg k' n8)) ?_
 exact cH
def aoS(j7:Nat)(oe:Value)(t:List (Int×Int)):sl prog 381 #[j7] [ai j7 [oe] 178,r4 oe (Value.int .i64) t] (aoR t) (W4 t):=by
  refine sl.enter (nj:=[j7]) (body:=_) 14 func381 rfl ntmps381 rfl kf ?_
  intro f Pm bo N dH cJ hR hk aF aJ ii fM az bB fS dI
  have ba:=fM (ai j7 [oe] 178) oU
  have bh:=fM (r4 oe (Value.int .i64) t) oU
  rcases bh.1 with ⟨rfl,rfl⟩|⟨p,rfl,cV,di,av,hl⟩
  · refine ⟨[ai j7 [.map none] 178],fun ar bI=>?_,?_⟩
    · simp only [nm] at bI;subst bI;exact ba
    refine bl.seq ?_
    refine bl.region ?_
    refine bX.A (aV.hh rfl (eZ.lF 0 rfl) (v:=0) (off:=0) rfl (fr.one isAgg178 rfl)) rfl ?_
    refine bX.f (aq.atz underlying178 rfl) rfl ?_
    rintro _ _ ⟨L,rfl,rfl⟩
    refine bX.nil ?_
    refine bl.block ?_
    refine bl.loop (bo:=Unit) (fun _=>True) (fun _=>[(0,.func (.yield f) #[] #[]),(5,.n L)]) (fun _=>cE L (.mapIter none 0 #[] 0) :: cJ ii) (fun _=>0) () trivial ⟨rfl,rfl,trivial⟩ (List.range (cJ ii).length.succ) tp (Qa _) ?_
    rintro _ -
    refine bl.seq ?_
    refine bl.region ?_
    refine bX.f (aq.apT 0 rfl rfl) rfl ?_
    rintro _ _ ⟨rfl,rfl⟩
    refine bX.n (U.extract rfl rfl) rfl ?_
    refine bX.nil ?_
    refine bl.seq ?_
    refine bl.fZ rfl rfl ?_
    refine bl.exit _ rfl ?_
    exact bl.done fun ok l j V W=>dI _ _ _ (.inl rfl) V.defers (.inl ⟨[],ii,⟨[],rfl,by simp [ex]⟩,bB,W.tail⟩)
  · have rP:(cE p (.map cV di)).holds aJ:=av
    refine ⟨ai j7 [.map (some p)] 178 :: cE p (.map cV di) :: aF,fun ar bI=>?_,?_⟩
    · rcases fb.1 bI with rfl|bI
      · exact ba
      · rcases fb.1 bI with rfl|bI
        · exact ⟨rP,bh.2⟩
        · exact fM ar xC
    refine bl.seq ?_
    refine bl.region ?_
    refine bX.A (aV.hh rfl (eZ.lF 0 rfl) (v:=0) (off:=0) rfl (fr.one isAgg178 rfl)) rfl ?_
    refine bX.f (aq.aty 1 underlying178 rfl rfl) rfl ?_
    rintro _ _ ⟨L,rfl,rfl⟩
    refine bX.nil ?_
    refine bl.block ?_
    refine bl.loop (bo:=List Int×Array Nat×bo) (fun c3=>wx t cV c3.2.1 c3.1∧dH (c3.1.map fun d=>[Value.b d]) c3.2.2) (fun _=>[(0,.func (.yield f) #[] #[]),(5,.n L)]) (fun c3=>cE L (.mapIter (some p) di c3.2.1 di) :: cJ c3.2.2) (fun c3=>(leftOf cV c3.2.1).size) ⟨[],#[],ii⟩ ⟨wx.nil,bB⟩ ⟨rfl,rfl,trivial⟩ (List.range (cJ ii).length.succ) tp (Qa _) ?_
    rintro ⟨ey,c6,F⟩ ⟨bU,kI⟩
    refine bl.seq ?_
    refine bl.region ?_
    refine bX.f (aq.apS 0 1 rfl rfl rfl hl.kr) rfl ?_
    rintro _ _ (⟨ajJ,rfl,rfl⟩|⟨aM,wR,rfl,rfl⟩)
    · refine bX.n (U.extract rfl rfl) rfl ?_
      refine bX.nil ?_
      refine bl.seq ?_
      refine bl.fZ rfl rfl ?_
      refine bl.exit _ rfl ?_
      exact bl.done fun ok l j V W=>dI _ _ _ (.inl rfl) V.defers (.inl ⟨_,F,⟨ey,rfl,bU.pM hl ajJ⟩,kI,W.tail⟩)
    · obtain ⟨d,m,R,-,wU,uf,qu⟩:=bU.next hl wR
      refine bX.n (U.extract rfl rfl) rfl ?_
      refine bX.nil ?_
      refine bl.seq ?_
      refine bl.lN rfl rfl ?_
      refine bl.skip ?_
      refine bl.block ?_
      refine bl.seq ?_
      refine bl.region ?_
      refine bX.A (aV.aiL 0 1 rfl rfl rfl (mem_left wR).1 hl.born) rfl ?_
      rw [R]
      refine bX.n (U.extract rfl rfl) rfl ?_
      refine bX.n (U.assign rfl) rfl ?_
      refine bX.nil ?_
      refine bl.seq ?_
      refine bl.region ?_
      refine bX.n (U.move rfl) rfl ?_
      refine bX.n (U.move rfl) rfl ?_
      refine bX.aal (f:=f) (ae:=[d]) [cE L (.mapIter (some p) di (c6.push aM.born) di)] (cJ F) (bN:=fun qi B=>match qi with|true=>∃ hj,dH ((ey++[d]).map fun d=>[Value.b d]) hj∧B=cJ hj|false=>∃ aI,hR aI∧B=hk aI) rfl rfl rfl rfl rfl (fun ok eS jw lf=>?_) rfl ?_
      · have fw:=cM.Dj ok jw
        have qr:∀ k,k∈ei (cJ F)→k∈ei (cE L (.mapIter (some p) di (c6.push aM.born) di) :: cJ F):=fun k ag=>by rw [ya];exact iE.2 (.inr ag)
        refine YieldAt.xm (az _ F [d] eS kI ⟨d,bx.2 ⟨_,wU,rfl⟩,rfl,aoT uf⟩ (fun ar bI=>?_) lf) ?_
        · simp only [oo,lK,fb] at bI
          rcases bI with rfl|rfl|bI
          · have:=fw (ai j7 [.map (some p)] 178) oU
            exact ⟨this.1,fun k ag jK=>this.2 k ag (qr k jK)⟩
          · have:=fw (cE p (.map cV di)) oU
            exact ⟨.inr ⟨p,rfl,cV,di,this.1,hl⟩,fun k ag jK=>this.2 k ag (qr k jK)⟩
          · have:=fw ar xC
            exact ⟨this.1,fun k ag jK=>this.2 k ag (qr k jK)⟩
        · rintro r dY (⟨rfl,hj,jM,eY⟩|⟨rfl,aI,ce,eY⟩)
          · exact ⟨true,_,rfl,⟨hj,by rw [W5];exact jM,rfl⟩,eY⟩
          · exact ⟨false,_,rfl,⟨aI,ce,rfl⟩,eY⟩
      · rintro qi B dj
        cases qi
        · obtain ⟨aI,ce,rfl⟩:=dj
          refine bX.n (U.not rfl) rfl ?_
          refine bX.nil ?_
          refine bl.lN rfl rfl ?_
          exact bl.ret fun ok l j V W=>dI _ _ _ (.inr rfl) V.defers (.inr ⟨aI,ce,W.tail⟩)
        · obtain ⟨hj,jM,rfl⟩:=dj
          refine bX.n (U.not rfl) rfl ?_
          refine bX.nil ?_
          refine bl.fZ rfl rfl ?_
          refine bl.skip ?_
          refine bl.cE ?_
          exact bl.gW ⟨ey++[d],c6.push aM.born,hj⟩ ⟨qu,jM⟩ (left_shrinks cV c6 aM wR) ⟨rfl,rfl,trivial⟩ (List.range (cJ hj).length.succ) tp (Qa _)
def avH{ey f:List Int}(aw:ey.Nodup)(ad:ey.Perm f):ey.mergeSort (fun e F=>decide (e≤F))=bn.rising f:=by
  have bh:=Q2 ey fun e F=>decide (e≤F)
  have W:(ey.mergeSort fun e F=>decide (e≤F)).Pairwise (fun e F=>decide (e≤F)=true):=QS (fun l p i G J=>by simp only [decide_eq_true_eq] at *;omega) (fun l p=>by simp only [KR,decide_eq_true_eq];omega) ey
  have pd:(ey.mergeSort fun e F=>decide (e≤F)).Nodup:=bh.nodup_iff.2 aw
  refine bn.Qw ?_ (bn.Gf f) fun e=>?_
  · exact (List.pairwise_and_iff.2 ⟨W,pd⟩).imp fun c=>by
      have:=c.1;have:=c.2
      simp only [decide_eq_true_eq] at *;omega
  · rw [bh.mem_iff,ad.mem_iff,bn.Jp]
def ZY(oe:Value)(alE:Value.oneCell' oe=true):M prog 358 #[oe] [] [] (fun m B=>∃ L,m=.func (.func 381) #[] #[.n L]∧B=[ai L [oe] 178]):=by
 refine M.aM func358 a ntmps358 a fun an=>?_
 refine I 0 ?_
 refine w.f (aq.box [oe] a (JI alE)) a ?_
 rintro _ _ ⟨b9,rfl,rfl⟩
 refine I 0 ?_
 exact ab9
def awM(j7:Nat)(oe:Value)(t:List (Int×Int))(bh:t.length≤100000):M prog 390 #[Value.slice none 0 0,.func (.func 381) #[] #[j7]] [ai j7 [oe] 178,r4 oe (Value.int .i64) t] [] (fun m B=>∃ ey:List Int,(ey.Nodup∧ey.Perm (ex t))∧B=[row m 3 1 (ey.map bH)]):=by
 refine M.Ic (args:=[Value.slice none 0 0,.func (.func 381) #[] #[j7]]) (body:=_) 13 func390 rfl ntmps390 rfl ?_
 intro an
 refine bl.seq ?_
 refine bl.region ?_
 refine bX.f (aq.box [Value.slice none 0 0] rfl rfl) rfl ?_
 rintro _ _ ⟨b9,rfl,rfl⟩
 refine bX.n (U.assign rfl) rfl ?_
 refine bX.nil ?_
 refine bl.seq ?_
 refine bl.seq ?_
 refine bl.region ?_
 refine bX.n (U.move rfl) rfl ?_
 refine bX.nil ?_
 refine bl.block ?_
 refine bl.Kz [(2,.n b9),(4,Value.slice none 0 0),(6,.func (.func 381) #[] #[j7])] ⟨rfl,rfl,rfl,trivial⟩ ?_
 refine bl.lC 3 1 ?_
 refine bl.PT (f':=381) (bo:=Value×List Int) (N:=Unit) (fun ae c3=>sm t ae c3.2) (fun c3=>[ai b9 [c3.1] 60,row c3.1 3 1 (c3.2.map bH)]) (fun e c3=>e=.ret∧(False)) (fun c3=>[]) rfl rfl (fun _ _=>by rfl) (aoS j7 oe t) (fun ae e nC=>by obtain ⟨_,_,rfl,_⟩:=nC;rfl) rfl ⟨Value.slice none 0 0,[]⟩ sm.nil [1,0] bd rfl (fun ar bI=>bI) (fun eS tF C3 Hi Yu KE vS b8 EX ajU FC CT=>?_) (fun C3 Hi r9 KE vS IN FC=>?_) (fun C3 Hi r9 b8 vS FC=>?_)
 ·
  obtain ⟨cP,alo,rfl,alF⟩:=CT
  obtain ⟨X,ey⟩:=vS
  have Fm:sm t KE ey:=FC
  show bl _ _ _ ([(7,.b cP)]++[(2,.n b9),(4,Value.slice none 0 0),(6,.func (.func 381) #[] #[j7])]) [cE C3 (.loop (Yu .ready none)),cE Hi (.deferred (some [])),ai b9 [X] 60,row X 3 1 (ey.map bH)]
  refine bl.region ?_
  refine bX.n (U.assign rfl) rfl ?_
  refine bX.nil ?_
  refine bl.begin (EX _ _) ?_
  refine bl.block ?_
  refine bl.region ?_
  refine bX.A (aV.hh rfl (eZ.ai 2 rfl) (v:=0) (off:=0) rfl (fr.one isAgg60 rfl)) rfl ?_
  refine bX.n (U.move rfl) rfl ?_
  refine bX.f (aq.TK (H:=1) bH [cP] [(0,.b cP)] (by exact runUnderlying60) G5 Ls rfl rfl rfl aN rfl rfl) rfl ?_
  rintro fd _ rfl
  refine bX.f (aq.Tt (H:=1) 4 (by exact underlying60) DN (by exact (nE).2.1) (by exact (nE).2.2.1) GZ rfl rfl rfl rfl rfl (ax.row 0 rfl) bH.one aa6 aa6) rfl ?_
  rintro lv _ rfl
  refine bX.one (ax.row 4 rfl) (fun o_=>?_)
  refine bX.cq (aq.store 3 (ae:=[lv]) [lv] rfl rfl rfl (by exact sizeOf60) (JI o_) rfl (XH o_) rfl rfl) ?_
  rintro _ _ rfl
  refine bX.nil ?_
  refine bl.cE ?_
  exact mB.Ju (Z:={ Yu .ready none with state:=.busy }) ⟨lv,ey++([cP])⟩ (show sm t (KE++[[Value.b cP]]) (ey++([cP])) from (Fm.next alo alF)) rfl [1,2,3,4] bd rfl (ajU .ready none .ready none)
 ·
  obtain ⟨X,ey⟩:=vS
  have Fm:sm t KE ey:=FC
  have ui:=aoQ IN Fm.1
  show bl _ _ _ [(2,.n b9),(4,Value.slice none 0 0),(6,.func (.func 381) #[] #[j7])] [cE C3 (.loop r9),cE Hi (.deferred (some [])),ai b9 [X] 60,row X 3 1 (ey.map bH)]
  refine bl.cE ?_
  refine bl.seq ?_
  refine bl.region ?_
  refine bX.A (aV.hh rfl (eZ.ai 2 rfl) (v:=0) (off:=0) rfl (fr.one isAgg60 rfl)) rfl ?_
  refine bX.n (U.assign rfl) rfl ?_
  refine bX.nil ?_
  exact bl.PV (k:=1) rfl rfl rfl (Fin.ret (ho:=[.tmp 4]) rfl [_] ⟨rfl,trivial⟩ [3] bd [row X 3 1 (ey.map bH)] rfl ⟨ey,⟨Fm.2.1,ui⟩,rfl⟩)
 ·
  exact FC.2.elim
def awO(j7:Nat)(oe:Value)(t:List (Int×Int))(bh:t.length≤100000):M prog 380 #[.func (.func 381) #[] #[j7]] [ai j7 [oe] 178,r4 oe (Value.int .i64) t] [] (fun m B=>∃ ey:List Int,(ey.Nodup∧ey.Perm (ex t))∧B=[row m 3 1 (ey.map bH)]):=by
 refine M.aM func380 a ntmps380 a fun an=>?_
 refine P awM ?_
 rintro p2 _ ⟨O6,Fr,rfl⟩
 have ui:=Fr
 refine aF ?_
 exact aO ⟨O6,ui,a⟩
def ZZ(j7:Nat)(oe:Value)(t:List (Int×Int))(bh:t.length≤100000):M prog 357 #[.func (.func 381) #[] #[j7]] [ai j7 [oe] 178,r4 oe (Value.int .i64) t] [] (fun m B=>B=[row m 3 1 ((bn.rising (ex t)).map bH)]):=by
 refine M.aM func357 a ntmps357 a fun an=>?_
 refine P awO ?_
 rintro p2 _ ⟨O6,Fr,rfl⟩
 have ui:=Fr
 refine P (P_ p2 O6 (by first|omega|(have au:=(ui.2).length_eq;simp only [ex,fc] at au;omega))) ?_
 refine aF ?_
 exact aO (dz (fun (aI:List Int)=>([row p2 3 1 (aI.map bH)]:List aB)) (avH ui.1 ui.2))
def awQ :M prog 50 #[] [] [] (fun m B=>∃ n p v,m=.n n∧B=[ai n [.map (some p),.map (some v)] 195,cw p (Value.int .i64) ([]),cw v k3 ([])]):=by
 refine M.aM func50 a ntmps50 a fun an=>?_
 refine I 0 ?_
 refine w.f (aq.AX (Value.int .i64)) a ?_
 rintro _ _ ⟨is,rfl,rfl⟩
 refine w.f (aq.AX k3) a ?_
 rintro _ _ ⟨j4,rfl,rfl⟩
 refine aF ?_
 intro dE
 exact aO ⟨dE,is,j4,a,a⟩
def ZX(n p v:Nat)(fR:List (Int×Int))(i k:Int)(hf:cx fR i=some k):M prog 200 #[n,i] [ai n [.map (some p),.map (some v)] 195,cw p (Value.int .i64) fR] [] (fun m B=>m=.tuple #[k,.bool true]∧B=[]):=by
 refine M.aM func200 a ntmps200 a fun an=>?_
 refine I 0 ?_
 refine w.n (U.jA xL a) a ?_
 refine I 1 ?_
 refine w.A (aV.s0 (X:=.b k) (A:=true) jY e2 iF a a (hS.b0 1 p a a) vZ vZ) a ?_
 exact cH
def awP(n p v:Nat)(fR:List (Int×Int))(i:Int)(hf:cx fR i=none):M prog 200 #[n,i] [ai n [.map (some p),.map (some v)] 195,cw p (Value.int .i64) fR] [] (fun m B=>m=.tuple #[.b 0,.bool false]∧B=[]):=by
 refine M.aM func200 a ntmps200 a fun an=>?_
 refine I 0 ?_
 refine w.n (U.jA xL a) a ?_
 refine I 1 ?_
 refine w.A (aV.s0 (X:=.b 0) (A:=false) jY e2 iF a a (hS.b0 1 p a a) vZ vZ) a ?_
 exact cH
def awK(n p v:Nat)(fR:List (Int×Int))(i k A:Int)(hf:cx fR i=some A):M prog 194 #[n,i,k] [ai n [.map (some p),.map (some v)] 195,cw p (Value.int .i64) fR] [] (fun m B=>m=.bool false∧B=[]):=by
 refine M.aM func194 a ntmps194 a fun an=>?_
 refine I 0 ?_
 refine w.n (U.jA xL a) a ?_
 refine I 1 ?_
 refine w.el (U.dg (U.Jm jY a)) a a ?_
 refine I 1 ?_
 refine w.A (aV.s0 (X:=.b A) (A:=true) jY e2 iF a a (hS.b0 1 p a a) vZ vZ) a ?_
 exact cH
def awJ(n p v:Nat)(fR:List (Int×Int))(eK:List (Int×(Nat×List (Int×Int))))(ah:List aB)(i k:Int)(e:Nat×List (Int×Int))(hf:cx fR i=none)(Cu:cx eK k=some e):M prog 194 #[n,i,k] [] [cw e.1 (Value.int .i64) e.2,c1 ah,ai n [.map (some p),.map (some v)] 195,cw p (Value.int .i64) fR,cw v k3 eK] (fun m B=>m=.bool true∧B=[cw e.1 (Value.int .i64) (e' e.2 i k),c1 ah,ai n [.map (some p),.map (some v)] 195,cw p (Value.int .i64) (e' fR i k),cw v k3 eK]):=by
 refine M.aM func194 a ntmps194 a fun an=>?_
 refine I 0 ?_
 refine w.n (U.jA xL a) a ?_
 refine I 1 ?_
 refine w.el (U.dg (U.Jm jY a)) a a ?_
 refine I 1 ?_
 refine w.A (aV.s0 (X:=.b 0) (A:=false) jY e2 iF a a (hS.fy 3 p a a) vZ vZ) a ?_
 refine I 1 ?_
 refine w.cq (aq.q' (aG:=k) 3 jY e2 a a a a) ?_
 rintro _ _ rfl
 refine I 1 ?_
 refine w.A (aV.mr (X:=.map (some e.1)) rt e2 u2 a a (hS.fy 4 v a a) xB) a<|w.n (U.Jm jY a) a ?_
 refine I 1 ?_
 refine w.A (aV.mr (X:=.map (some e.1)) rt e2 u2 a a (hS.fy 4 v a a) xB) a ?_
 refine I 0 ?_
 refine w.cq (aq.q' (aG:=k) 0 jY e2 a a a a) ?_
 rintro _ _ rfl
 exact cH
def awL(n p v:Nat)(fR:List (Int×Int))(eK:List (Int×(Nat×List (Int×Int))))(ah:List aB)(i k:Int)(hf:cx fR i=none)(Cu:cx eK k=none):M prog 194 #[n,i,k] [] [c1 ah,ai n [.map (some p),.map (some v)] 195,cw p (Value.int .i64) fR,cw v k3 eK] (fun m B=>∃ A,m=.bool true∧B=[cw A (Value.int .i64) (e' [] i k),c1 ah,ai n [.map (some p),.map (some v)] 195,cw p (Value.int .i64) (e' fR i k),cw v k3 (e' eK k (A,[]))]):=by
 refine M.aM func194 a ntmps194 a fun an=>?_
 refine I 0 ?_
 refine w.n (U.jA xL a) a ?_
 refine I 1 ?_
 refine w.el (U.dg (U.Jm jY a)) a a ?_
 refine I 1 ?_
 refine w.A (aV.s0 (X:=.b 0) (A:=false) jY e2 iF a a (hS.fy 2 p a a) vZ vZ) a ?_
 refine I 1 ?_
 refine w.cq (aq.q' (aG:=k) 2 jY e2 a a a a) ?_
 rintro _ _ rfl
 refine I 1 ?_
 refine w.A (aV.mr (X:=Value.map none) rt e2 u2 a a (hS.fy 3 v a a) xB) a<|w.n (U.apt jY a) a ?_
 refine I 1 ?_
 refine w.f (aq.AX (Value.int .i64)) a ?_
 rintro _ _ ⟨is,rfl,rfl⟩
 refine w.cq (aq.q' (aG:=(is,[])) 4 rt e2 a a a a) ?_
 rintro _ _ rfl
 refine I 1 ?_
 refine w.A (aV.mr (X:=.map (some is)) rt e2 u2 a a (hS.fy 4 v a a) Rk) a ?_
 refine I 0 ?_
 refine w.cq (aq.q' (aG:=k) 0 jY e2 a a a a) ?_
 rintro _ _ rfl
 refine aF ?_
 exact aO ⟨is,a,a⟩
def awV(n p v:Nat)(fR:List (Int×Int))(i:Int)(hf:cx fR i=none):M prog 94 #[n,i] [ai n [.map (some p),.map (some v)] 195,cw p (Value.int .i64) fR] [] (fun m B=>m=.tuple #[.b 0,.bool false]∧B=[]):=by
 refine M.aM func94 a ntmps94 a fun an=>?_
 refine P awP ?_
 exact cH
def awU(n p v:Nat)(fR:List (Int×Int))(eK:List (Int×(Nat×List (Int×Int))))(ah:List aB)(i k:Int)(e:Nat×List (Int×Int))(hf:cx fR i=some k)(Cu:cx eK k=some e)(ao:e3 e.2 i≠[]):M prog 94 #[n,i] [] [cw e.1 (Value.int .i64) e.2,c1 ah,ai n [.map (some p),.map (some v)] 195,cw p (Value.int .i64) fR,cw v k3 eK] (fun m B=>m=.tuple #[k,.bool true]∧B=[cw e.1 (Value.int .i64) (e3 e.2 i),c1 ah,ai n [.map (some p),.map (some v)] 195,cw p (Value.int .i64) (e3 fR i),cw v k3 eK]):=by
 refine M.aM func94 a ntmps94 a fun an=>?_
 refine P ZX ?_
 refine I 1 ?_
 refine w.cq (aq.yJ 3 a jY e2 a a a) ?_
 rintro _ _ rfl
 refine I 1 ?_
 refine w.A (aV.mr (X:=.map (some e.1)) rt e2 u2 a a (hS.fy 4 v a a) xB) a ?_
 refine I 0 ?_
 refine w.cq (aq.yJ 0 a jY e2 a a a) ?_
 rintro _ _ rfl
 refine I 1 ?_
 refine w.A (aV.mr (X:=.map (some e.1)) rt e2 u2 a a (hS.fy 4 v a a) xB) a<|w.A (aV.Xa a jY a (hS.fy 0 e.1 a a)) a ?_
 refine I 0 ?_
 refine K.fZ a (p4 (by have au:=GI.2 ao;omega)) ?_
 refine I 0 ?_
 exact cH
def awT(n p v:Nat)(fR:List (Int×Int))(eK:List (Int×(Nat×List (Int×Int))))(ah:List aB)(i k:Int)(e:Nat×List (Int×Int))(hf:cx fR i=some k)(Cu:cx eK k=some e)(ao:e3 e.2 i=[]):M prog 94 #[n,i] [] [cw e.1 (Value.int .i64) e.2,c1 ah,ai n [.map (some p),.map (some v)] 195,cw p (Value.int .i64) fR,cw v k3 eK] (fun m B=>m=.tuple #[k,.bool true]∧B=[c1 ah,ai n [.map (some p),.map (some v)] 195,cw p (Value.int .i64) (e3 fR i),cw v k3 (e3 eK k)]):=by
 refine M.aM func94 a ntmps94 a fun an=>?_
 refine P ZX ?_
 refine I 1 ?_
 refine w.cq (aq.yJ 3 a jY e2 a a a) ?_
 rintro _ _ rfl
 refine I 1 ?_
 refine w.A (aV.mr (X:=.map (some e.1)) rt e2 u2 a a (hS.fy 4 v a a) xB) a ?_
 refine I 0 ?_
 refine w.cq (aq.yJ 0 a jY e2 a a a) ?_
 rintro _ _ rfl
 refine I 1 ?_
 refine w.A (aV.mr (X:=.map (some e.1)) rt e2 u2 a a (hS.fy 4 v a a) xB) a<|w.A (aV.Xa a jY a (hS.fy 0 e.1 a a)) a ?_
 refine I 0 ?_
 refine K.lN a (c9 (by rw [ao];rfl)) ?_
 refine I 1 ?_
 refine w.cq (aq.yJ 4 a rt e2 a a a) ?_
 rintro _ _ rfl
 exact cH
def awR(n p v:Nat)(eK:List (Int×(Nat×List (Int×Int))))(k:Int)(e:Nat×List (Int×Int))(Cu:cx eK k=some e)(S:e.2.length≤100000):M prog 327 #[n,k] [ai n [.map (some p),.map (some v)] 195,cw v k3 eK,cw e.1 (Value.int .i64) e.2] [] (fun m B=>B=[row m 3 1 ((bn.rising (ex e.2)).map bH)]):=by
 refine M.aM func327 a ntmps327 a fun an=>?_
 refine I 0 ?_
 refine w.n (U.jA xL a) a ?_
 refine I 1 ?_
 refine w.A (aV.mr (X:=.map (some e.1)) rt e2 u2 a a (hS.b0 1 v a a) xB) a ?_
 refine P ZY ?_
 intro b9
 refine w.f (aq.fl call357 (ZZ b9 (.map (some e.1)) e.2 E) [] a a (.fy 0 a a (.og 2 apD a .nil))) a ?_
 rintro xj _ ⟨_,rfl,rfl⟩
 exact cH
def awS(n p v:Nat)(eK:List (Int×(Nat×List (Int×Int))))(k:Int)(Cu:cx eK k=none):M prog 327 #[n,k] [ai n [.map (some p),.map (some v)] 195,cw v k3 eK] [] (fun m B=>B=[row m 3 1 (([]:List Int).map bH)]):=by
 refine M.aM func327 a ntmps327 a fun an=>?_
 refine I 0 ?_
 refine w.n (U.jA xL a) a ?_
 refine I 1 ?_
 refine w.A (aV.mr (X:=Value.map none) rt e2 u2 a a (hS.b0 1 v a a) xB) a ?_
 refine P ZY ?_
 intro b9
 refine w.f (aq.call [.func (.func 381) #[] #[b9]] call357 a (ZZ b9 (Value.map none) ([]) oU) [] [0] bd a [ai b9 [Value.map none] 178] a (eI.eo 0 a vI [] bd a (eI.apV eI.nil))) a ?_
 rintro xj _ ⟨_,rfl,rfl⟩
 exact cH
def awN(n p v:Nat)(fR:List (Int×Int))(eK:List (Int×(Nat×List (Int×Int))))(ah:List aB):M prog 110 #[n] [] [c1 ah,ai n [.map (some p),.map (some v)] 195,cw p (Value.int .i64) fR,cw v k3 eK] (fun m B=>m=.tuple #[]∧B=[ai n [.map (some p),.map (some v)] 195,cw p (Value.int .i64) ([]),cw v k3 ([])]):=by
 refine M.aM func110 a ntmps110 a fun an=>?_
 refine I 0 ?_
 refine w.n (U.pY xL a) a ?_
 refine I 1 ?_
 refine w.cq (aq.FN 2 a jY a a) ?_
 rintro _ _ rfl
 refine I 1 ?_
 refine w.cq (aq.FN 3 a rt a a) ?_
 rintro _ _ rfl
 exact cH
def axi(n:Nat)(H:hA)(e:List cI)(dI:bj.hI e H)(k:Int)(S:e.length≤100000):M prog 327 #[n,k] [hF 195 n H] [] (fun m B=>B=[row m 3 1 ((bj.mv e k).map bH)]):=by
  cases ba:cx H.eK k with
  | none =>
    rw [dI.apX ba]
    exact (awS n H.p H.v H.eK k ba).PZ RE
  | some m =>
    rw [←dI.wZ ba]
    have R:=dI.vt k m ba
    refine (awR n H.p H.v H.eK k m ba ?_).PZ ?_
    · have G:(ex m.2).length≤(bj.bb e).length:=Jx R.1 fun i aS=>bj.WS.1 ⟨k,(R.2.2 i).1 aS⟩
      simp only [ex,bj.bb,fc] at G
      omega
    · intro ar bI
      simp only [fb,oq,or_false] at bI
      rcases bI with rfl|rfl|rfl
      · exact QG aBF
      · exact QG aBF
      · exact axj (UV ba)
def Z'(n:Nat)(H:hA)(e:List cI)(dI:bj.hI e H)(i k:Int):M prog 194 #[n,i,k] [] [hF 195 n H] (fun m B=>m=.bool (!(bj.dX e i).isSome)∧∃ gC,bj.hI (bj.add e i k) gC∧B=[hF 195 n gC]):=by
  cases aS:bj.dX e i with
  | some A =>
    refine (awK n H.p H.v H.fR i k A DP).Ys RE ?_
    rintro m h8 ⟨rfl,rfl⟩
    exact ⟨rfl,H,by rw [bj.add,aS];exact dI,rfl⟩
  | none =>
    have V:bj.add e i k=bj.hO e i k:=by rw [bj.add,aS];rfl
    rw [V]
    cases ba:cx H.eK k with
    | some m =>
      obtain ⟨ah,G,J,_⟩:=aaf (Y:=195) (n:=n) dI.on ba
      refine (awJ n H.p H.v H.fR H.eK ah i k m DP ba).conv G ?_
      rintro j B ⟨rfl,rfl⟩
      exact ⟨_,⟨rfl,_,dI.agh aS ba,rfl⟩,J _ _⟩
    | none =>
      refine (awL n H.p H.v H.fR H.eK (H.eK.map mn) i k DP ba).conv QH ?_
      rintro j B ⟨A,rfl,rfl⟩
      exact ⟨_,⟨rfl,_,dI.agi (p:=A) aS ba,rfl⟩,axk ba A _ _ _⟩
def aab(n:Nat)(H:hA)(e:List cI)(dI:bj.hI e H)(i:Int):M prog 94 #[n,i] [] [hF 195 n H] (fun m B=>m=.tuple #[.b ((bj.dX e i).getD 0),.bool (bj.dX e i).isSome]∧∃ gC,bj.hI (bj.c8 e i) gC∧B=[hF 195 n gC]):=by
  cases aS:bj.dX e i with
  | none =>
    refine (awV n H.p H.v H.fR i DP).Ys RE ?_
    rintro m h8 ⟨rfl,rfl⟩
    have bU:bj.c8 e i=e:=rk.2 fun A a6=>by
      have:A.call≠i:=fun r=>bj.aos.1 aS (bx.2 ⟨A,a6,r⟩)
      simp [this]
    exact ⟨rfl,H,by rw [bU];exact dI,rfl⟩
  | some k =>
    obtain ⟨m,ba,Aj⟩:=dI.akd aS
    obtain ⟨ah,G,J,aA⟩:=aaf (Y:=195) (n:=n) dI.on ba
    rcases Q7 (e3 m.2 i=[]) with ao|ao
    · refine (awT n H.p H.v H.fR H.eK ah i k m DP ba ao).conv G ?_
      rintro j B ⟨rfl,rfl⟩
      exact ⟨_,⟨rfl,_,dI.av9 aS ba ao,rfl⟩,aA _⟩
    · refine (awU n H.p H.v H.fR H.eK ah i k m DP ba ao).conv G ?_
      rintro j B ⟨rfl,rfl⟩
      exact ⟨_,⟨rfl,_,dI.av_ aS ba ao,rfl⟩,J _ _⟩
def axg(n:Nat)(H:hA):M prog 110 #[n] [] [hF 195 n H] (fun m B=>m=.tuple #[]∧∃ gC,bj.hI [] gC∧B=[hF 195 n gC]):=by
 refine (awN n H.p H.v H.fR H.eK (H.eK.map mn)).conv QH ?_
 rintro j B ⟨rfl,rfl⟩
 exact ⟨_,⟨rfl,_,bj.hI.new,rfl⟩,aae⟩
def aaa:M prog 50 #[] [] [] (fun m B=>∃ n H,m=.n n∧B=[hF 195 n H]∧bj.hI [] H):=by
 refine awQ.conv (a'.refl []) ?_
 rintro j B ⟨n,p,v,rfl,rfl⟩
 exact ⟨_,⟨n,_,rfl,rfl,bj.hI.new⟩,aae⟩
def axh(n:Nat)(H:hA)(e:List cI)(dI:bj.hI e H)(k:Int)(S:e.length≤100000):M prog 273 #[n,k] [] [hF 195 n H] (fun m B=>∃ gC,bj.hI (bj.drop e k) gC∧B=[row m 3 1 ((bj.mv e k).map bH),hF 195 n gC]):=by
 refine M.aM func273 a ntmps273 a fun an=>?_
 refine I 0 ?_
 refine w.f (aq.fl call327 (axi n H e dI k E) [] a a (.fy 0 a a .nil)) a ?_
 rintro ti _ ⟨_,rfl,rfl⟩
 refine aD 1 ?_
 refine de (bo:=Nat×hA) (fun (d,jQ)=>d≤(bj.mv e k).length∧bj.hI (bj.cut e (bj.mv e k) d) jQ) (fun (d,jQ)=>[(13,.b (d:Int))]) (fun (d,jQ)=>[hF 195 n jQ]) (fun (d,jQ)=>(bj.mv e k).length-d) ⟨0,H⟩ [0,4,5,11,12] ⟨by omega,dI⟩ ?_
 rintro ⟨d,jQ⟩ ⟨R,hR1⟩
 refine aU ?_ ?_
 refine I 0 ?_
 intros
 obtain ⟨cP,il⟩:=c4 (f:=bj.mv e k) (b:=d) E
 refine P aab ?_
 rintro _ _ ⟨rfl,P8,hR5,rfl⟩
 have aAx:(bj.c8 (bj.cut e (bj.mv e k) d) cP).length≤(bj.cut e (bj.mv e k) d).length+1:=by first|omega|exact Nat.le_of_eq bj.I_|exact Nat.le_succ_of_le bj.tl|exact Nat.le_succ_of_le bj.rF|(simp;done)|(unfold bj.add;split<;>first|omega|exact Nat.le_of_eq bj.I_)
 refine I 0 ?_
 refine w.n (U.hJ a a (by first|omega|(have au:=bj.aq' (f:=e) (k:=k);omega))) a ?_
 refine I 0 ?_
 exact da ⟨d+1,P8⟩ ⟨by omega,(by rw [bj.he il];exact hR5)⟩
 refine aF ?_
 intros
 exact aO ⟨jQ,(by rw [←bj.aif dI.up (d:=d) E];exact hR1),a⟩
def M1(h:g.b3)(d:g.dM):List aB:=[ai h.i [h.aG,h.y,h.ap,h.bm,d.cb,d.bJ,d.bR,d.b4,d.bY,d.b_,d.cy,h.c,h.f,d.aa,d.aP] 172,ai h.aG [d.cA,d.held] 309,ai h.y [.bool true,h.bm,d.aR,d.gh] 296,ai h.c ([Value.b h.ap]++d.S.map (Value.int .i64)) 302,ai h.f [d.ez,d.eA,d.gb] 311]
def iH(h:g.b3)(d:g.dM):aB:=c1 (M1 h d)
def M2(d:g.dM):=(d.cA,d.held,d.aR,d.gh,d.ez,d.eA,d.gb,d.S)
def aic(h:g.b3)(d:g.dM):M prog 44 #[h.i] [iH h d] [] (fun m B=>m=.b d.aa∧B=[]):=(T8 h.i h.aG h.y h.c h.f h.ap h.bm d.cb d.bJ d.bR d.b4 d.bY d.b_ d.cy d.aa d.aP).vF (.at 0 rfl .nil)
def ah9(h:g.b3)(d:g.dM):M prog 43 #[h.i] [iH h d] [] (fun m B=>m=.b d.aP∧B=[]):=(ahW h.i h.aG h.y h.c h.f h.ap h.bm d.cb d.bJ d.bR d.b4 d.bY d.b_ d.cy d.aa d.aP).vF (.at 0 rfl .nil)
def aid(h:g.b3)(d:g.dM):M prog 45 #[h.i] [iH h d] [] (fun m B=>m=.b d.aR∧B=[]):=(MW h.i h.aG h.y h.c h.f h.ap h.bm d.cb d.bJ d.bR d.b4 d.bY d.b_ d.cy d.aa d.aP h.bm d.aR d.gh).vF (.at 0 rfl (.at 2 rfl .nil))
def ah'(h:g.b3)(d:g.dM)(fG dG e9 fi im h' hP:Int):M prog 100 #[h.i,.agg #[fG,dG,e9,fi,im,h',hP]] [] [iH h d] (fun m B=>m=.b (h7.e7 [fG,dG,e9,fi,im,h',hP] h.ap)∧B=[iH h (if h7.e7 [fG,dG,e9,fi,im,h',hP] h.ap=0 then g.yW d fG dG e9 fi im h' hP else d)]):=by
 refine (((ahY h.i h.aG h.y h.c h.f h.ap h.bm d.cb d.bJ d.bR d.b4 d.bY d.b_ d.cy d.aa d.aP fG dG e9 fi im h' hP).xm (post:=fun m B=>∃ cD,cD=(if h7.e7 [fG,dG,e9,fi,im,h',hP] h.ap=0 then g.yW d fG dG e9 fi im h' hP else d)∧M2 cD=M2 d∧m=.b (h7.e7 [fG,dG,e9,fi,im,h',hP] h.ap)∧B=[ai h.i [h.aG,h.y,h.ap,h.bm,.b cD.cb,.b cD.bJ,.b cD.bR,.b cD.b4,.b cD.bY,.b cD.b_,.b cD.cy,h.c,h.f,.b cD.aa,.b cD.aP] 172]) fun m B c=>by rcases c with ⟨bB,rfl,rfl⟩|⟨rfl,c,rfl⟩;exact ⟨d,by rw [be bB],rfl,rfl,rfl⟩;exact ⟨g.yW d fG dG e9 fi im h' hP,by rw [ee c],rfl,by rw [c],rfl⟩)).frame.conv (a'.trans a'.o6 (a'.bz [0,1,2,3,4] rfl)) ?_
 rintro m _ ⟨h8,rfl,cD,hB,cs,rfl,rfl⟩
 obtain ⟨dQ,bP,cP,cQ,dZ,eE,na,hL⟩:d.cA=cD.cA∧d.held=cD.held∧d.aR=cD.aR∧d.gh=cD.gh∧d.ez=cD.ez∧d.eA=cD.eA∧d.gb=cD.gb∧d.S=cD.S:=by simpa [M2,eq_comm] using cs
 rw [←hB,dQ,bP,cP,cQ,dZ,eE,na,hL]
 exact acA
def ah_(h:g.b3)(d:g.dM)(e:Int):M prog 179 #[h.i,e] [iH h d] [] (fun m B=>m=.bool (ab.r6 e d.aa)∧B=[]):=(ahX h.i h.aG h.y h.c h.f h.ap h.bm d.cb d.bJ d.bR d.b4 d.bY d.b_ d.cy d.aa d.aP e).vF (.at 0 rfl .nil)
def aib(h:g.b3)(d:g.dM)(e:Int)(bf:h.bC)(R:d.bC h):M prog 81 #[h.i,e] [] [iH h d] (fun m B=>m=.bool (g.nd h.ap e)∧B=[iH h (g.cY h d e)]):=by
 refine (ah0 h.i h.aG h.y h.c h.f h.ap h.bm d.cb d.bJ d.bR d.b4 d.bY d.b_ d.cy d.aa d.aP d.S e R.aw Lp bf.hm).frame.conv (a'.trans a'.o6 (a'.bz [0,3,1,2,4] rfl)) ?_
 rintro m _ ⟨h8,rfl,rfl,rfl⟩
 exact ⟨_,⟨rfl,rfl⟩,a'.trans (a'.bz [0,2,3,1,4] rfl) a'.qj⟩
def aie(h:g.b3)(d:g.dM)(e:Int)(bf:h.bC)(R:d.bC h):M prog 188 #[h.i,e] [] [iH h d] (fun m B=>m=.tuple #[]∧B=[iH h (g.rg d e)]):=by
 refine (ah1 h.i h.aG h.y h.c h.f h.ap h.bm d.cb d.bJ d.bR d.b4 d.bY d.b_ d.cy d.aa d.aP d.ez d.eA d.gb e).frame.conv (a'.trans a'.o6 (a'.bz [0,4,1,2,3] rfl)) ?_
 rintro m _ ⟨h8,rfl,rfl,rfl⟩
 exact ⟨_,⟨rfl,rfl⟩,a'.trans (a'.bz [0,2,3,4,1] rfl) a'.qj⟩
def aia(h:g.b3)(d:g.dM)(bf:h.bC)(R:d.bC h):M prog 113 #[h.i] [] [iH h d] (fun m B=>m=.tuple #[]∧B=[iH h (g.iB h d)]):=by
 refine (ahZ h.i h.aG h.y h.c h.f h.ap h.bm d.cb d.bJ d.bR d.b4 d.bY d.b_ d.cy d.aa d.aP d.cA d.held d.aR d.gh d.ez d.eA d.gb d.S R.aw R.ne R.nz).frame.conv (a'.trans a'.o6 (a'.bz [0,1,2,3,4] rfl)) ?_
 rintro m _ ⟨h8,rfl,rfl,rfl⟩
 exact acA
def ah8(h:g.b3)(d:g.dM)(bf:h.bC)(R:d.bC h):M prog 106 #[h.i] [] [iH h d] (fun m B=>∃ is j4:Bool,m=.agg #[.b (g.sx d),.b (g.gs h d).aa,.b (g.gs h d).aR,.b (g.gs h d).aP,.bool is,.bool j4]∧B=[iH h (g.gs h d)]):=by
 refine (ahV h.i h.aG h.y h.c h.f h.ap h.bm d.cb d.bJ d.bR d.b4 d.bY d.b_ d.cy d.aa d.aP d.cA d.held d.aR d.gh d.ez d.eA d.gb d.S R.aw Lp bf.hm R.sT R.hu R.ne R.nz R.kY R.gk R.jl R.lg bf.lh).frame.conv (a'.trans a'.o6 (a'.bz [0,1,2,3,4] rfl)) ?_
 rintro m _ ⟨h8,rfl,rfl,rfl⟩
 exact ⟨_,⟨_,_,rfl,rfl⟩,a'.trans (a'.bz [0,1,2,3,4] rfl) a'.qj⟩
def J3(h:g.b3)(A:g.o0):List aB:=[ai h.A [h.n,h.hD] 206,ai h.n [.map (some h.mx),h.hD,A.X] 294,row A.X 66 7 (A.u.map T.cells),cw h.mx (Value.int .i64) A.t]
def ll(h:g.b3)(A:g.o0):aB:=c1 (J3 h A)
def as0(h:g.b3)(A:g.o0)(id:Int)(bf:h.bC)(a6:A.bC h):M prog 176 #[h.A,id] [ll h A] [] (fun m B=>m=.bool (cx A.t id).isSome∧B=[]):=(asR h.A h.n h.mx A.X h.hD A.u A.t id DX a6.R).vF (.at 0 rfl (.at 1 rfl (.eo 2 rfl jz (.at 3 rfl .nil))))
def Yh(h:g.b3)(A:g.o0)(bf:h.bC)(a6:A.bC h):M prog 40 #[h.A] [ll h A] [] (fun m B=>∃ v:List T,v.Perm A.u∧v.Pairwise g.le∧B=[row m 66 7 (v.map T.cells)]):=(Yd h.A h.n h.mx A.X h.hD A.u DX).vF (.at 0 rfl (.at 1 rfl (.eo 2 rfl jz .nil)))
def Yf(h:g.b3)(A:g.o0)(e:T)(bf:h.bC)(a6:A.bC h)(dy:∀ F∈A.u,F.id≠e.id)(c:(A.u.length:Int) < h.hD):M prog 182 #[h.A,e] [] [ll h A] (fun m B=>∃ ig,ig.bC h∧ig.u.Perm (e :: A.u)∧m=.tuple #[T.zero,.bool false,.b 0]∧B=[ll h ig]):=by
 refine (asO h.A h.n h.mx A.X h.hD A.u A.t e DX a6.R (a6.R.yP.2 dy) c).frame.conv (a'.trans a'.o6 (a'.bz [0,1,2,3] rfl)) ?_
 rintro m _ ⟨h8,rfl,eJ,cU,dF,rfl,ad,R,rfl⟩
 exact ⟨_,⟨⟨eJ,cU,dF⟩,⟨R,(by have e4:=ad.length_eq;simp only [e6] at e4;show (cU.length:Int)≤_;omega)⟩,ad,rfl,rfl⟩,a'.trans (a'.bz [0,1,2,3] rfl) a'.qj⟩
def Yg(h:g.b3)(A:g.o0)(e:T)(bf:h.bC)(a6:A.bC h)(dy:∀ F∈A.u,F.id≠e.id)(c:¬(A.u.length:Int) < h.hD):M prog 182 #[h.A,e] [] [ll h A] (fun m B=>∃ ig F,ig.bC h∧(F :: ig.u).Perm (e :: A.u)∧(∀ aI∈e :: A.u,g.iL aI F=false)∧m=.tuple #[.agg #[.b F.id,.b F.am,.b F.cg,.b F.ck,.b F.eN,.b F.dm,.b F.seq],.bool true,.b 0]∧B=[ll h ig]):=by
 refine (asP h.A h.n h.mx A.X h.hD A.u A.t e DX a6.R (a6.R.yP.2 dy) (by have e4:=a6.S;omega) (by have e4:=bf.Fw;omega)).frame.conv (a'.trans a'.o6 (a'.bz [0,1,2,3] rfl)) ?_
 rintro m _ ⟨h8,rfl,eJ,cU,dF,F,rfl,ad,ce,R,rfl⟩
 exact ⟨_,⟨⟨eJ,cU,dF⟩,F,⟨R,aaT⟩,ad,ce,rfl,rfl⟩,a'.trans (a'.bz [0,1,2,3] rfl) a'.qj⟩
def as1(h:g.b3)(A:g.o0)(bf:h.bC)(a6:A.bC h)(c:A.u≠[]):M prog 184 #[h.A] [] [ll h A] (fun m B=>∃ ig e,ig.bC h∧A.u.Perm (e :: ig.u)∧(∀ F∈A.u,g.le e F)∧m=.tuple #[.agg #[.b e.id,.b e.am,.b e.cg,.b e.ck,.b e.eN,.b e.dm,.b e.seq],.bool true]∧B=[ll h ig]):=by
 refine (asS h.A h.n h.mx A.X h.hD A.u A.t DX a6.R (GI.2 c)).frame.conv (a'.trans a'.o6 (a'.bz [0,1,2,3] rfl)) ?_
 rintro m _ ⟨h8,rfl,e,eJ,cU,dF,rfl,Q,ad,R,rfl⟩
 exact ⟨_,⟨⟨eJ,cU,dF⟩,e,⟨R,aaT⟩,ad,a6.R.uq Q,rfl,rfl⟩,a'.trans (a'.bz [0,1,2,3] rfl) a'.qj⟩
def as2(h:g.b3)(A:g.o0)(c:A.u=[]):M prog 184 #[h.A] [] [ll h A] (fun m B=>m=.tuple #[T.zero,.bool false]∧B=[ll h A]):=by
 refine (asT h.A h.n h.mx A.X h.hD A.u A.t (by rw [c];rfl)).frame.conv (a'.trans a'.o6 (a'.bz [0,1,2,3] rfl)) ?_
 rintro m _ ⟨h8,rfl,rfl,rfl⟩
 exact ⟨_,⟨rfl,rfl⟩,a'.trans (a'.bz [0,1,2,3] rfl) a'.qj⟩
def asZ(h:g.b3)(A:g.o0)(bf:h.bC)(a6:A.bC h):M prog 108 #[h.A] [] [ll h A] (fun m B=>∃ ig,ig.bC h∧ig.u=[]∧m=.tuple #[]∧B=[ll h ig]):=by
 refine (asQ h.A h.n h.mx A.X h.hD A.u A.t).frame.conv (a'.trans a'.o6 (a'.bz [0,1,2,3] rfl)) ?_
 rintro m _ ⟨h8,rfl,rfl,rfl⟩
 exact ⟨_,⟨⟨Value.slice none 0 0,[],[]⟩,⟨g.hG.nil,(by have e4:=bf.Fw;show ((([]:List T).length:Nat):Int)≤_;simp;omega)⟩,rfl,rfl,rfl⟩,a'.trans (a'.bz [0,1,2,3] rfl) a'.qj⟩
def as3(h:g.b3)(A:g.o0)(x:Int)(bf:h.bC)(a6:A.bC h):M prog 103 #[h.A,x] [] [ll h A] (fun m B=>∃ ig v,ig.bC h∧v.Perm A.u∧v.Pairwise g.le∧ig.u.Perm (g.k9 v x v.length)∧B=[ll h ig,row m 66 7 ((g.np v x v.length).map T.cells)]):=by
 refine (asU h.A h.n h.mx A.X h.hD A.u A.t x DX a6.R).frame.conv (a'.trans a'.o6 (a'.bz [0,1,2,3] rfl)) ?_
 rintro m _ ⟨h8,rfl,eJ,cU,dF,v,bw,W,ad,R,rfl⟩
 exact ⟨_,⟨⟨eJ,cU,dF⟩,v,⟨R,(by have e4:=ad.length_eq;have dx:=bw.length_eq;have fe:=g.W1 (v:=v) (x:=x) (d:=v.length);have h4_:=a6.S;show (cU.length:Int)≤_;omega)⟩,bw,W,ad,rfl⟩,a'.trans (a'.bz [0,1,2,3,4] rfl) (a'.EE (eu:=J3 h ⟨eJ,cU,dF⟩))⟩
def Zm(h:g.b3)(af:g.fh):List aB:=[ai h.H ([Value.b h.b1]++af.map g.jR) 210,c1 (g.my 66 af)]
def gQ(h:g.b3)(af:g.fh):aB:=c1 (Zm h af)
def Qo(h:g.b3)(af:g.fh)(bf:h.bC)(S:af.length=16)(av:g.nV af h.b1.toNat):M prog 41 #[h.H] [gQ h af] [] (fun m B=>B=[row m 66 7 ((g.c5 af).map T.cells)]):=(show M _ _ _ _ _ _ from by have au:=Zn h.H h.b1 af S Ln bf.gk;rw [g.CY av] at au;exact au).vF (.at 0 rfl (.at 1 rfl .nil))
def avV(h:g.b3)(af:g.fh)(bf:h.bC)(S:af.length=16)(av:g.nV af h.b1.toNat):M prog 183 #[h.H] [gQ h af] [] (fun m B=>m=.b (h.b1-((g.c5 af).length:Int))∧B=[]):=(show M _ _ _ _ _ _ from by have au:=avi h.H h.b1 af S Ln bf.gk;rw [g.CY av] at au;exact au).vF (.at 0 rfl (.at 1 rfl .nil))
def avW(h:g.b3)(af:g.fh)(e:T)(bf:h.bC)(S:af.length=16)(av:g.nV af h.b1.toNat)(dy:∀ F∈g.c5 af,F.id≠e.id)(bc:((g.c5 af).length:Int) < h.b1):M prog 185 #[h.H,e] [] [gQ h af] (fun m B=>∃ (s:Int) (c':g.fh),c'.length=16∧g.nV c' h.b1.toNat∧(g.c5 c').Perm (e :: g.c5 af)∧g.Hv h.b1.toNat af c' e∧m=.tuple #[s,.b 0]∧B=[gQ h c']):=by
 refine (avo h.H h.b1 af e S Ln bf.gk av (g.apY dy) (by obtain ⟨C0,e4,dx⟩:=g.ai' (af:=af) (s:=h.b1.toNat) (by have:=bf.gk;omega) (by rw [g.CY av];omega);exact ⟨C0,by omega,dx⟩)).frame.conv (a'.trans a'.o6 (a'.bz [0,1] rfl)) ?_
 rintro m _ ⟨h8,rfl,d,c',rfl,G,J,aA,aZ,rfl⟩
 exact ⟨_,⟨_,c',G,J,aA,aZ,rfl,rfl⟩,a'.trans (a'.bz [0,1] rfl) a'.qj⟩
def avX(h:g.b3)(af:g.fh)(e:T)(bf:h.bC)(S:af.length=16)(av:g.nV af h.b1.toNat)(Q:e∈g.c5 af):M prog 272 #[h.H,e.id] [] [gQ h af] (fun m B=>∃ (F:T) (c':g.fh),F.id=e.id∧c'.length=16∧g.nV c' h.b1.toNat∧(g.c5 af).Perm (F :: g.c5 c')∧g.xP h.b1.toNat af c' F∧m=.tuple #[F,.bool true]∧B=[gQ h c']):=by
 refine (avq h.H h.b1 af e.id S Ln bf.gk av (g.axl av (by have:=bf.kY;omega) Q)).frame.conv (a'.trans a'.o6 (a'.bz [0,1] rfl)) ?_
 rintro m _ ⟨h8,rfl,F,c',rfl,ac,G,J,aA,aZ,rfl⟩
 exact ⟨_,⟨F,c',ac,G,J,aA,aZ,rfl,rfl⟩,a'.trans (a'.bz [0,1] rfl) a'.qj⟩
def avU(h:g.b3)(af:g.fh)(S:af.length=16):M prog 109 #[h.H] [] [gQ h af] (fun m B=>m=.tuple #[]∧B=[gQ h (List.replicate 16 none)]):=by
 refine (avg h.H h.b1 af S).frame.conv (a'.trans a'.o6 (a'.bz [0,1] rfl)) ?_
 rintro m _ ⟨h8,rfl,rfl,rfl⟩
 exact ⟨_,⟨rfl,rfl⟩,a'.trans (a'.trans (a'.bz [0] rfl) a'.new) (a'.trans (a'.bz [1,0] rfl) a'.qj)⟩
def P'(h:g.b3)(H:g.sq):List aB:=[ai h.bz [H.ah,H.z,H.s,.map (some h.xd)] 180,row H.ah 3 1 (H.b7.map bH),cw h.xd (Value.int .i64) H.t]
def fW(h:g.b3)(H:g.sq):aB:=c1 (P' h H)
def avB(h:g.b3)(H:g.sq)(W:H.bC):M prog 48 #[h.bz] [fW h H] [] (fun m B=>B=[row m 3 1 (H.C.map bH)]):=(au3 h.bz h.xd H.ah H.z H.s H.b7 H.t W.dI W.pR W.mh W.lV W.q5).vF (.at 0 rfl (.eo 1 rfl jz .nil))
def avD(h:g.b3)(H:g.sq)(id:Int)(W:H.bC):M prog 177 #[h.bz,id] [] [fW h H] (fun m B=>∃ gC,gC.bC∧gC.b7.length=H.b7.length∧gC.C=g.gJ H.C H.b7.length id∧m=.bool (!(cx H.t id).isSome)∧B=[fW h gC]):=by
 refine (au7 h.bz h.xd H.ah H.z H.s H.b7 H.t id W.dI W.pR W.mh W.lV W.q5 W.hf).frame.conv (a'.trans a'.o6 (a'.bz [0,1,2] rfl)) ?_
 rintro m _ ⟨h8,rfl,A,pK,w5,vD,dF,rfl,⟨G,J,aA,aZ,bT⟩,rfl,hf,bh,rfl⟩
 exact ⟨_,⟨⟨H.ah,pK,w5,vD,dF⟩,⟨(by show vD.length≤256;rw [G];exact W.dI),J,(by show pK < (vD.length:Int)∨vD.length=0∧pK=0;rw [G];exact aA),aZ,(by show w5≤(vD.length:Int);rw [G];exact bT),hf⟩,G,bh,rfl,rfl⟩,a'.trans (a'.bz [0,1,2] rfl) a'.qj⟩
def avC(h:g.b3)(H:g.sq)(W:H.bC):M prog 112 #[h.bz] [] [fW h H] (fun m B=>∃ gC,gC.bC∧gC.b7.length=H.b7.length∧gC.C=[]∧m=.tuple #[]∧B=[fW h gC]):=by
 refine (au4 h.bz h.xd H.ah H.z H.s H.b7 H.t).frame.conv (a'.trans a'.o6 (a'.bz [0,1,2] rfl)) ?_
 rintro m _ ⟨h8,rfl,rfl,rfl⟩
 exact ⟨_,⟨⟨H.ah,0,0,H.b7,[]⟩,⟨W.dI,sf 0,(by have e4:=W.pR;have dx:=W.mh;show (0:Int) < H.b7.length∨H.b7.length=0∧(0:Int)=0;omega),sf 0,(by show (0:Int)≤H.b7.length;omega),g.nq.new⟩,rfl,g.Gp,rfl,rfl⟩,a'.trans (a'.bz [0,1,2] rfl) a'.qj⟩
def AZ(h:g.b3)(x bS aY bb:Int):M prog 39 #[h.s] [ai h.s (g.io h x bS aY bb) 90] [] (fun m B=>m=.bool true∧B=[]):=by
 refine M.aM func39 a ntmps39 a fun an=>?_
 refine I 0 ?_
 refine w.n (U.pY underlying29 a) a ?_
 refine I 1 ?_
 refine w.el (U.dg (U.pY af1 a)) a a ?_
 exact cH
def JD(h:g.b3)(x bS aY bb:Int):M prog 42 #[h.s] [ai h.s (g.io h x bS aY bb) 90] [] (fun m B=>m=.n h.i∧B=[]):=by
 refine M.aM func42 a ntmps42 a fun an=>?_
 refine I 0 ?_
 refine w.n (U.jA underlying29 a) a ?_
 exact cH
def JB(h:g.b3)(x bS aY bb:Int)(d:g.dM):M prog 18 #[h.s] [ai h.s (g.io h x bS aY bb) 90,iH h d] [] (fun m B=>m=.b d.aa∧B=[]):=by
 refine M.aM func18 a ntmps18 a fun an=>?_
 refine P JD ?_
 refine P aic ?_
 exact cH
def Px(h:g.b3)(x bS aY bb:Int)(d:g.dM):M prog 17 #[h.s] [ai h.s (g.io h x bS aY bb) 90,iH h d] [] (fun m B=>m=.b d.aP∧B=[]):=by
 refine M.aM func17 a ntmps17 a fun an=>?_
 refine P JD ?_
 refine P ah9 ?_
 exact cH
def JC(h:g.b3)(x bS aY bb:Int)(d:g.dM):M prog 19 #[h.s] [ai h.s (g.io h x bS aY bb) 90,iH h d] [] (fun m B=>m=.b d.aR∧B=[]):=by
 refine M.aM func19 a ntmps19 a fun an=>?_
 refine P JD ?_
 refine P aid ?_
 exact cH
def oN(h:g.b3)(x bS aY bb:Int)(u:Nat)(dS dK:Value)(dn:List aK)(iz id code l p:Int)(aC:dn.length≤99999):M prog 80 #[u,iz,id,code,l,p] [ai h.s (g.io h x bS aY bb) 90] [ai u [h.s,dS,dK] 261,row dS 51 7 (dn.map aK.cells)] (fun m B=>∃ ha,m=.tuple #[]∧B=[ai u [h.s,ha,dK] 261,row ha 51 7 ((dn++[(⟨iz,x,h.al,id,code,l,p⟩:aK)]).map aK.cells)]):=by
 refine M.aM func80 a ntmps80 a fun an=>K.ef (df [(0,26),(26,0),(27,0),(28,3),(31,0)]) [0] Tryz.bE aN a ?_
 refine aD 6 ?_
 refine aL.f a (aq.fs aK.cells [(⟨iz,x,h.al,id,code,l,p⟩:aK)] Es sizeOf51 HP a a a aN a a) a ?_
 exact adC
def ZD(h:g.b3)(u:Nat)(dS dK:Value)(eT:List bk)(z:bk)(aC:eT.length≤99999):M prog 180 #[u,.agg #[z.iz,z.s_,z.s9,z.dg,z.s',z.s8,z.mx,z.td,z.tb,z.uD,z.og,z.tc,z.hv,z.uB,z.qA,z.uw,z.rb,z.eC,z.fp,z.e_,z.jP,z.iV,z.iW]] [] [ai u [h.s,dS,dK] 261,row dK 62 23 (eT.map bk.cells)] (fun m B=>∃ ij,m=.tuple #[]∧B=[ai u [h.s,dS,ij] 261,row ij 62 23 ((eT++[z]).map bk.cells)]):=by
 refine M.aM func180 a ntmps180 a fun an=>?_
 refine I 1 ?_
 intros
 refine K.ef (df [(0,7),(7,0),(8,0),(9,3),(12,0)]) [0,1] Tryz.bE aN a ?_
 refine aD 2 ?_
 refine aL.f a (aq.fs bk.cells [z] xT B8 Ey a a a aN a a) a ?_
 rintro wu _ rfl
 refine aD 3 ?_
 intro u0
 refine aL.one a (fun _ c=>by cases c<;>rfl) (ax.row 3 a) (fun yj=>?_)
 refine aL.cq a (aq.gy 2 sizeOf34 yj a a a a) ?_
 rintro _ _ rfl
 exact cH
def Gs(h:g.b3)(x bS aY bb:Int)(d:g.dM)(u:Nat)(dS dK:Value)(dn:List aK)(eT:List bk)(e:T)(code:Int)(aC:dn.length≤99990)(bc:eT.length≤99990):M prog 83 #[u,e,code] [ai h.s (g.io h x bS aY bb) 90,iH h d] [ai u [h.s,dS,dK] 261,row dS 51 7 (dn.map aK.cells),row dK 62 23 (eT.map bk.cells)] (fun m B=>∃ ha ij,m=.tuple #[]∧B=[ai u [h.s,ha,ij] 261,row ha 51 7 ((dn++[g.ek x h.al (e,code)]).map aK.cells),row ij 62 23 ((eT++[g.eB h.al d (e,code)]).map bk.cells)]):=by
 refine M.aM func83 a ntmps83 a fun an=>?_
 refine P oN ?_
 refine I 0 ?_
 intro _ Hn
 refine K.sB 10 9 7 [.b 0,.b 0,.b 0,.b 0,.b 0,.b 0] Tryz.bE aN a a (by exact zeroValue41) a ?_
 refine aD 4 ?_
 intro mG
 refine I 1 ?_
 refine K.hW 11 Tryz.bE aN ?_
 refine P JB ?_
 refine P Px ?_
 refine P JC ?_
 refine P aue ?_
 refine P (ZD h u Hn dK eT (⟨2,0,0,0,0,0,0,e.id,h.al,e.cg,code,d.aa,d.aP,d.aR,0,0,0,0,0,0,0,0,0⟩:bk)) ?_
 exact ac0
def vL(h:g.b3)(x bS aY bb:Int)(d:g.dM)(u:Nat)(dS dK:Value)(dn:List aK)(eT:List bk)(af:g.fh)(cX:List (Int×g.bn))(dc:hA)(cd:List cI)(F:T)(code:Int)(bf:h.bC)(cN:g.gp h af cX cd dc)(az:F∈g.c5 af)(aC:dn.length≤99990)(bc:eT.length≤99990):M prog 191 #[u,F.id,code] [ai h.s (g.io h x bS aY bb) 90,iH h d] [ai u [h.s,dS,dK] 261,row dS 51 7 (dn.map aK.cells),row dK 62 23 (eT.map bk.cells),gQ h af,cw h.hC g.li cX,c1 (g.h4 3 cX),hF 195 h.j dc] (fun m B=>∃ ha ij c' kb,m=.tuple #[]∧(g.c5 af).Perm (F :: g.c5 c')∧g.xP h.b1.toNat af c' F∧g.gp h c' (e3 cX F.id) (bj.drop cd F.id) kb∧B=[ai u [h.s,ha,ij] 261,row ha 51 7 ((dn++[g.ek x h.al (F,code)]).map aK.cells),row ij 62 23 ((eT++[g.eB h.al d (F,code)]).map bk.cells),gQ h c',cw h.hC g.li (e3 cX F.id),c1 (g.h4 3 (e3 cX F.id)),hF 195 h.j kb]):=by
 refine M.aM func191 a ntmps191 a fun an=>?_
 refine P (avX h af F bf cN.S cN.av az) ?_
 rintro _ _ ⟨axn,yV,hi3,hl4,hb5,hp6,hta7,rfl,rfl⟩
 obtain rfl:F=axn:=cN.k.e8 az (hp6.mem_iff.2 p5) hi3.symm
 refine I 3 ?_
 intros
 refine w.cq (aq.yJ 5 a jZ e2 a a a) ?_
 rintro _ _ rfl
 refine P (axh h.j dc cd cN.Z F.id cN.vP) ?_
 rintro awD _ ⟨aBl,hr11,rfl⟩
 refine P Gs ?_
 rintro _ _ ⟨wb,F14,rfl,rfl⟩
 refine w.nil<|K.hv (a'.trans (a'.bz [8,0,1,2,3,4,5,6,7] a) (a'.wQ (g.apO (id:=F.id)))) ?_
 refine aF ?_
 exact aO ⟨_,_,_,_,a,hp6,hta7,cN.PG hp6 hl4 hb5 hr11,a⟩
def awg(h:g.b3)(x bS aY bb:Int)(d:g.dM)(u:Nat)(dS dK:Value)(dn:List aK)(eT:List bk)(A:g.o0)(id aE O am a1 bM:Int)(bf:h.bC)(a6:A.bC h)(dy:∀ F∈A.u,F.id≠id)(jv:0≤aY)(sR:aY≤1000000)(aC:dn.length≤99990)(bc:eT.length≤99990):M prog 85 #[u,.agg #[id,aE,O,am,a1,bM]] [iH h d] [ai u [h.s,dS,dK] 261,row dS 51 7 (dn.map aK.cells),row dK 62 23 (eT.map bk.cells),ai h.s (g.io h x bS aY bb) 90,ll h A] (fun m B=>∃ ha ij o7 qV ig,m=.tuple #[]∧ig.bC h∧g.zz h x d ⟨id,am,aE,a1,bM,x,aY+1⟩ A.u ig.u dn o7 eT qV∧B=[ai u [h.s,ha,ij] 261,row ha 51 7 (o7.map aK.cells),row ij 62 23 (qV.map bk.cells),ai h.s (g.io h x bS (aY+1) bb) 90,ll h ig]):=by
 refine M.aM func85 a ntmps85 a fun an=>?_
 refine I 5 ?_
 intros
 refine js (decide ((A.u.length:Int) < h.hD)) (fun J=>?_) (fun J=>?_)
 have e_:=dp J
 refine K.kD Tryz.bE ?_
 refine ar.gV 14 19 a ?_ ?_
 refine ar.fH (df [(0,14),(19,0),(14,0),(15,4),(20,0),(21,2)]) [0,4] aN a ?_
 refine P Gh ?_
 refine P (Yf h A (⟨id,am,aE,a1,bM,x,aY+1⟩:T) bf) ?_
 intro mG
 rintro _ _ ⟨Yc,hq7,hp8,rfl,rfl⟩
 refine aF ?_
 exact aO ⟨_,_,_,_,_,a,hq7,.inl ⟨dp J,hp8,a,a⟩,a⟩
 refine ar.fH (df [(0,14),(14,0),(15,4),(19,0),(20,0),(21,2)]) [0,4] aN a ?_
 refine P Gh ?_
 refine P (Yf h A (⟨id,am,aE,a1,bM,x,aY+1⟩:T) bf) ?_
 rintro _ _ ⟨aA8,hq13,hp14,rfl,rfl⟩
 refine aF ?_
 intro Np
 exact aO ⟨_,_,_,_,_,a,hq13,.inl ⟨dp J,hp14,a,a⟩,a⟩
 have Db:=fa J
 refine K.kD Tryz.bE ?_
 refine ar.gV 14 19 a ?_ ?_
 refine ar.fH (df [(0,14),(19,0),(14,0),(15,4),(20,0),(21,2)]) [0,4] aN a ?_
 refine P Gh ?_
 refine P (Yg h A (⟨id,am,aE,a1,bM,x,aY+1⟩:T) bf) ?_
 intro UQ
 rintro _ _ ⟨aA9,y21,hq22,hp23,hz24,rfl,rfl⟩
 refine P Gs ?_
 rintro _ _ ⟨Sv,F27,rfl,rfl⟩
 refine aF ?_
 exact aO ⟨_,_,_,_,_,a,hq22,.inr ⟨fa J,y21,hp23,hz24,a,a⟩,a⟩
 refine ar.fH (df [(0,14),(14,0),(15,4),(19,0),(20,0),(21,2)]) [0,4] aN a ?_
 refine P Gh ?_
 refine P (Yg h A (⟨id,am,aE,a1,bM,x,aY+1⟩:T) bf) ?_
 rintro _ _ ⟨aA_,y30,hq31,hp32,hz33,rfl,rfl⟩
 refine P Gs ?_
 intro ajt
 rintro _ _ ⟨Sx,F37,rfl,rfl⟩
 refine aF ?_
 exact aO ⟨_,_,_,_,_,a,hq31,.inr ⟨fa J,y30,hp32,hz33,a,a⟩,a⟩
def vK(h:g.b3)(x bS aY bb:Int)(d:g.dM)(u:Nat)(dS dK:Value)(dn:List aK)(A:g.o0)(af:g.fh)(cX:List (Int×g.bn))(dc:hA)(cd:List cI)(bf:h.bC)(R:d.bC h)(a6:A.bC h)(cN:g.gp h af cX cd dc)(gj:((A.u++g.c5 af).map T.id).Nodup)(aC:dn.length≤90000):M prog 86 #[u] [ai h.s (g.io h x bS aY bb) 90] [ai u [h.s,dS,dK] 261,row dS 51 7 (dn.map aK.cells),iH h d,ll h A,gQ h af,cw h.hC g.li cX,c1 (g.h4 3 cX)] (fun m B=>∃ cD ig c' lW ha o7 aj,m=.tuple #[]∧cD.bC h∧ig.bC h∧g.gp h c' lW cd dc∧g.k_ h x d cD A.u ig.u af c' cX lW dn o7 aj∧g.xK h ig.u (g.c5 c')∧B=[ai u [h.s,ha,dK] 261,row ha 51 7 (o7.map aK.cells),iH h cD,ll h ig,gQ h c',cw h.hC g.li lW,c1 (g.h4 3 lW)]):=by
 have:=bf.z
 refine M.aM func86 a ntmps86 a fun an=>?_
 refine I 1 ?_
 refine de (bo:=g.dM×g.o0×g.fh×(List (Int×g.bn))×Value×List aK×List T) (fun (bJ,ep,fK,jm1,EV1,evs1,ls)=>bJ.bC h∧ep.bC h∧g.gp h fK jm1 cd dc∧g.k_ h x d bJ A.u ep.u af fK cX jm1 dn evs1 ls) (fun (bJ,ep,fK,jm1,EV1,evs1,ls)=>[]) (fun (bJ,ep,fK,jm1,EV1,evs1,ls)=>[ai u [h.s,EV1,dK] 261,row EV1 51 7 (evs1.map aK.cells),iH h bJ,ll h ep,gQ h fK,cw h.hC g.li jm1,c1 (g.h4 3 jm1)]) (fun (bJ,ep,fK,jm1,EV1,evs1,ls)=>ep.u.length) ⟨d,A,af,cX,dS,dn,[]⟩ [0,2] ⟨R,a6,cN,g.k_.zero⟩ ?_
 rintro ⟨bJ,ep,fK,jm1,EV1,evs1,ls⟩ ⟨q4,mm,hin1,ml⟩
 refine P (avV h fK bf hin1.S hin1.av) ?_
 refine aU ?_ ?_
 refine I 0 ?_
 intros
 refine js (decide (ep.u.length=0)) (fun aA=>?_) (fun aA=>?_)
 have jP:=dp aA
 refine P (as2 h ep (uO.1 (dp aA))) ?_
 refine aF ?_
 intros
 exact aO ⟨_,_,_,_,_,_,_,a,q4,mm,hin1,ml,.inl (uO.1 (dp aA)),a⟩
 have j9:=fa aA
 refine P (as1 h ep bf mm (fun au=>absurd (by rw [au];rfl) (fa aA))) ?_
 rintro _ _ ⟨asM,d',hq10,hx11,hmn12,rfl,rfl⟩
 refine I 2 ?_
 intros
 refine K.fD 5 Tryz.bE aN ?_
 refine P (avW h fK d' bf hin1.S hin1.av (ml.zZ gj hx11) E) ?_
 rintro _ _ ⟨aAX,ps16,hl17,hb18,hp19,hpa20,rfl,rfl⟩
 refine I 0 ?_
 refine K.hW 8 Tryz.bE aN ?_
 refine P anV ?_
 refine aD 0 ?_
 refine w.cq (aq.q' (aG:=(g.vr d')) 6 jZ e2 a a a a) ?_
 rintro _ _ rfl
 refine w.dw 2 a<|K.fg 3 1 (([]:List Int).map bH) a<|K.hv (a'.trans (a'.bz [0,8,1,2,3,4,5,6,7] a) (a'.lx (g.apP (hin1.k.r5.2 (ml.zZ gj hx11)) (g.vr d'))))<|K.fD 6 Tryz.bE aN ?_
 refine P H3 ?_
 refine P aie ?_
 refine P (oN h x bS aY bb u EV1 dK evs1 3 d'.id 0 (ab.left x d'.dm) d'.ck (by have e4:=ml.len;have dx:=ml.Jz;have fe:=g.sY hin1.av;have h4_:=bf.gk;omega)) ?_
 refine I 0 ?_
 intro D3
 exact da ⟨(g.rg bJ (ab.left x d'.dm)),asM,ps16,e' jm1 d'.id (g.vr d'),D3,evs1++[(⟨3,x,h.al,d'.id,0,ab.left x d'.dm,d'.ck⟩:aK)],ls++[d']⟩ ⟨(q4.QA (ab.left x d'.dm)),hq10,hin1.start hp19 (ml.zZ gj hx11) hl17 hb18,ml.next gj hx11 hmn12 hp19 hin1 hpa20⟩ (by have au:=hx11.length_eq;simp only [e6] at au;dsimp only;omega)
 refine aF ?_
 intros
 exact aO ⟨_,_,_,_,_,_,_,a,q4,mm,hin1,ml,.inr (by have e4:=g.sY hin1.av;have dx:=bf.kY;omega),a⟩
def anR(e:T)(bg:Int)(jd:Value)(x:Int)(sS:Value.oneCell' jd=true)(c:e.ck≤x):M prog 209 #[.agg #[e.id,e.am,e.cg,e.ck,e.eN,e.dm,e.seq,bg,jd],x] [] [] (fun m B=>m=.b 6∧B=[]):=by
 have au:=WM e bg jd x sS
 rwa [ee c] at au
def anQ(e:T)(bg:Int)(jd:Value)(x:Int)(sS:Value.oneCell' jd=true)(c:¬e.ck≤x):M prog 209 #[.agg #[e.id,e.am,e.cg,e.ck,e.eN,e.dm,e.seq,bg,jd],x] [] [] (fun m B=>m=.b 0∧B=[]):=by
 have au:=WM e bg jd x sS
 rwa [be c] at au
def awf(h:g.b3)(x bS aY bb:Int)(d:g.dM)(u:Nat)(dS dK:Value)(dn:List aK)(eT:List bk)(af:g.fh)(cX:List (Int×g.bn))(dc:hA)(cd:List cI)(bf:h.bC)(cN:g.gp h af cX cd dc)(aC:dn.length≤90000)(bc:eT.length≤90000):M prog 105 #[u] [ai h.s (g.io h x bS aY bb) 90,iH h d] [ai u [h.s,dS,dK] 261,row dS 51 7 (dn.map aK.cells),row dK 62 23 (eT.map bk.cells),gQ h af,cw h.hC g.li cX,c1 (g.h4 3 cX),hF 195 h.j dc] (fun m B=>∃ c' lW kb hE ha ij o7 qV b5,m=.tuple #[]∧g.gp h c' lW hE kb∧g.rs h x d af c' cX lW cd hE dn o7 eT qV b5∧b5=(g.c5 af).filter (fun F=>decide (F.ck≤x))∧hE.length≤cd.length∧B=[ai u [h.s,ha,ij] 261,row ha 51 7 (o7.map aK.cells),row ij 62 23 (qV.map bk.cells),gQ h c',cw h.hC g.li lW,c1 (g.h4 3 lW),hF 195 h.j kb]):=by
 have:=bf.z
 have:=g.sY cN.av
 refine M.aM func105 a ntmps105 a fun an=>?_
 refine I 2 ?_
 refine w.f (aq.fl call41 (Qo h af bf cN.S cN.av) [] a a (.fy 3 a a .nil)) a ?_
 rintro ti _ ⟨_,rfl,rfl⟩
 refine aD 1 ?_
 refine de (bo:=Nat×g.fh×(List (Int×g.bn))×hA×List cI×Value×Value×List aK×List bk×List T) (fun (b,fK,jm1,l4,iq,EV1,FV1,evs1,frs1,b5)=>b≤(g.c5 af).length∧g.gp h fK jm1 iq l4∧g.rs h x d af fK cX jm1 cd iq dn evs1 eT frs1 b5∧g.oy x (g.c5 af) b5 b∧iq.length≤cd.length) (fun (b,fK,jm1,l4,iq,EV1,FV1,evs1,frs1,b5)=>[(16,.b (b:Int))]) (fun (b,fK,jm1,l4,iq,EV1,FV1,evs1,frs1,b5)=>[ai u [h.s,EV1,FV1] 261,row EV1 51 7 (evs1.map aK.cells),row FV1 62 23 (frs1.map bk.cells),gQ h fK,cw h.hC g.li jm1,c1 (g.h4 3 jm1),hF 195 h.j l4]) (fun (b,fK,jm1,l4,iq,EV1,FV1,evs1,frs1,b5)=>(g.c5 af).length-b) ⟨0,af,cX,dc,cd,dS,dK,dn,eT,[]⟩ [0,2,14,15] ⟨by omega,cN,g.rs.zero,g.oy.zero,oQ _⟩ ?_
 rintro ⟨b,fK,jm1,l4,iq,EV1,FV1,evs1,frs1,b5⟩ ⟨ac,hin1,vi,qt,hwn⟩
 refine aU ?_ ?_
 refine I 0 ?_
 intros
 obtain ⟨cP,il⟩:=c4 (f:=g.c5 af) (b:=b) E
 refine aD 4 ?_
 intros
 refine js (decide (cP.ck≤x)) (fun bT=>?_) (fun bT=>?_)
 have iW:=dp bT
 have IW:=qt.vc cN.k.gX vi.n il
 obtain ⟨k,ag,rU⟩:=hin1.k.gu cP IW
 refine K.fD 11 Tryz.bE aN ?_
 refine aD 2 ?_
 refine aj.A (aV.mr (X:=.agg #[cP.id,cP.am,cP.cg,cP.ck,cP.eN,cP.dm,cP.seq,k.bg,k.m]) jZ e2 j2 a a (hS.fy 5 h.hC a a) Lz) a ?_
 refine P (anR cP k.bg k.m x (hin1.k.one ag) (dp bT)) ?_
 refine P (vL h x bS aY bb d u EV1 FV1 evs1 frs1 fK jm1 l4 iq cP 6 bf hin1 IW aaY aaY) ?_
 rintro _ _ ⟨D6,F9,ps10,ws11,rfl,hp12,hta14,hin13,rfl⟩
 refine aD 1 ?_
 exact da ⟨b+1,ps10,e3 jm1 cP.id,ws11,bj.drop iq cP.id,D6,F9,evs1++[g.ek x h.al (cP,6)],frs1++[g.eB h.al d (cP,6)],b5++[cP]⟩ ⟨by omega,hin13,vi.next hp12 hin1 hta14 (dp bT),qt.go il (dp bT),iZ bj.rF hwn⟩
 have FV:=fa bT
 have IW:=qt.vc cN.k.gX vi.n il
 obtain ⟨k,ag,rU⟩:=hin1.k.gu cP IW
 refine K.fD 11 Tryz.bE aN ?_
 refine aD 2 ?_
 refine aj.A (aV.mr (X:=.agg #[cP.id,cP.am,cP.cg,cP.ck,cP.eN,cP.dm,cP.seq,k.bg,k.m]) jZ e2 j2 a a (hS.fy 5 h.hC a a) Lz) a ?_
 refine P (anQ cP k.bg k.m x (hin1.k.one ag) (fa bT)) ?_
 refine aD 1 ?_
 exact da ⟨b+1,fK,jm1,l4,iq,EV1,FV1,evs1,frs1,b5⟩ ⟨by omega,hin1,vi,qt.Qk il (fa bT),hwn⟩
 refine aF ?_
 intros
 exact aO ⟨_,_,_,_,_,_,_,_,_,a,hin1,vi,g.oy.all (b:=b) qt E,hwn,a⟩
end Go.Proofs.YtohjlkjhpibkmaaGreatDoor
