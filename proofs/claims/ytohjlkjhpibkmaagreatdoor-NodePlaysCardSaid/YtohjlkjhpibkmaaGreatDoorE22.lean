/-
  Walks, printed by a program of mine.
-/
import Derived.KernelRfl
import Derived.Test.YtohjlkjhpibkmaaGreatDoorE16
import Derived.Test.YtohjlkjhpibkmaaGreatDoorE20
import Derived.Test.YtohjlkjhpibkmaaGreatDoorE13
import Derived.Test.YtohjlkjhpibkmaaGreatDoorE03
set_option linter.all false
namespace Go.Proofs.YtohjlkjhpibkmaaGreatDoor
open Go Go.LK Go.Proofs.Tryz
set_option maxRecDepth 100000
set_option maxHeartbeats 4000000
def ju(s l p:Int):M prog 222 #[s,l,p] [] [] (fun m B=>m=.bool (aQ.cg s l p)∧B=[]):=by
 refine M.aM func222 a ntmps222 a fun an=>?_
 exact ac_
def ahE(i:cG)(bK bV b8 bG ch b' cf er es d' eO eP eQ:Int)(dA:Value)(ay:List cG)(al dl:Int)(bB:-1000000≤dl)(G:dl≤1000000):M prog 298 #[.agg #[i.O,i.aR,i.jr,i.dr],.agg #[bK,bV,b8,bG,ch,b',cf,er,es,d',eO,eP,eQ,dA],al,dl] [bF dA 4 (ay.map cG.cells)] [] (fun m B=>m=.bool (aQ.right i bG al dl)∧B=[]):=by
 refine M.aM func298 a ntmps298 a fun an=>?_
 refine I 1 ?_
 intros
 refine w.one (ax.b0 0 a) (fun Ad=>?_)
 refine P ju ?_
 refine I 0 ?_
 intros
 refine w.fz 14 a (fun bT=>?_) (fun bT=>?_)
 refine aU (fun iW=>?_) (fun iW=>?_)
 refine P ju ?_
 refine I 0 ?_
 refine w.fz 27 a (fun dL=>?_) (fun dL=>?_)
 refine P ju ?_
 refine I 0 ?_
 refine w.fz 32 a (fun hN=>?_) (fun hN=>?_)
 refine P ju ?_
 exact Hd
 exact Hd
 exact Hd
 exact Hd
 exact Hd
def ahD(y:cG)(L:Nat)(i:cG):M prog 297 #[.agg #[y.O,y.aR,y.jr,y.dr],L] [ai L [i.O,i.aR,i.jr,i.dr] 136] [] (fun m B=>m=.bool (decide (y.O=i.O))∧B=[]):=by
 refine M.aM func297 a ntmps297 a fun an=>?_
 exact cH
def avk(tX:Nat)(fP:List Value)(n:cG→Bool)(BS:List aB)(br:Value)(f:List cG)(aS:∀ args j,(callFunc tX args).run prog j=.ok (.enter tX args) j)(wM:∀ r:cG,M prog tX (([.agg (cG.cells r).toArray]:List Value)++fP).toArray BS [] (fun m B=>m=.bool (n r)∧B=[]))(S:f.length≤100000):M prog 345 #[br,(.func (.func tX) #[] fP.toArray)] (bF br 4 (f.map cG.cells) :: BS) [] (fun m B=>m=.b (aQ.AO n f)∧B=[]):=by
 refine M.aM func345 a ntmps345 a fun an=>?_
 refine aD 1 ?_
 refine de (bo:=Nat) (fun d=>d≤f.length∧∀ k e,k < d→f[k]?=some e→n e=false) (fun d=>[(8,.b (d:Int))]) (fun d=>[]) (fun d=>f.length-d) 0 [0,1,7] ⟨by omega,fun k e c=>by omega⟩ ?_
 rintro d ⟨R,dy⟩
 refine aU ?_ ?_
 refine I 0 ?_
 intros
 obtain ⟨bP,dJ⟩:=c4 (f:=f) (b:=d) E
 refine aD 2 ?_
 refine w.f (aq.Cd (ae:=[.agg #[bP.O,bP.aR,bP.jr,bP.dr]]) (fP:=fP) aS a a (wM bP) [] [] bd a [] a (eI.sub (fun _ bI=>gS _ bI) [] a)) a ?_
 rintro _ _ ⟨_,⟨rfl,rfl⟩,rfl⟩
 refine I 0 ?_
 refine K.cond a (fun aZ=>?_) (fun aZ=>?_)
 refine aF ?_
 exact aO ⟨(by rw [aQ.anz dy dJ bO];rfl),a⟩
 refine I 1 ?_
 exact da (d+1) ⟨by omega,aqB dy dJ bO⟩
 refine aF ?_
 intros
 exact aO ⟨(by rw [aQ.anB dy E];rfl),a⟩
def avh(tX:Nat)(fP:List Value)(n:cG→Bool)(BS:List aB)(br:Value)(f:List cG)(aS:∀ args j,(callFunc tX args).run prog j=.ok (.enter tX args) j)(wM:∀ r:cG,M prog tX (([.agg (cG.cells r).toArray]:List Value)++fP).toArray BS [] (fun m B=>m=.bool (n r)∧B=[]))(S:f.length≤100000):M prog 296 #[br,(.func (.func tX) #[] fP.toArray)] (bF br 4 (f.map cG.cells) :: BS) [] (fun m B=>m=.bool (f.any n)∧B=[]):=by
 refine M.aM func296 a ntmps296 a fun an=>?_
 refine I 0 ?_
 refine w.f (aq.call [br,(.func (.func tX) #[] fP.toArray)] call345 a (avk tX fP n BS br f aS wM E) [] [] bd a [] a (eI.b0 0 a [] a (eI.sub (fun _ bI=>gS _ bI) [] a))) a ?_
 rintro _ _ ⟨_,⟨rfl,rfl⟩,rfl⟩
 refine aF ?_
 exact aO ⟨dz Value.bool aQ.anA,a⟩
def ahC(bK bV b8 bG ch b' cf er es d' eO eP eQ:Int)(dA:Value)(ay:List cG)(al dl:Int)(bB:-1000000≤dl)(G:dl≤1000000)(S:ay.length≤100000):M prog 223 #[.agg #[bK,bV,b8,bG,ch,b',cf,er,es,d',eO,eP,eQ,dA],al,dl] [bF dA 4 (ay.map cG.cells)] [] (fun m B=>m=.bool (aQ.nu ay bG al dl)∧B=[]):=by
 refine M.aM func223 a ntmps223 a fun an=>?_
 refine I 0 ?_
 refine w.one (ax.b0 0 a) (fun n8=>?_)
 refine aU ?_ ?_
 refine aF ?_
 intros
 exact aO ⟨(by rw [aQ.ahv E];rfl),a⟩
 refine aD 2 ?_
 intros
 refine de (bo:=Nat) (fun d=>d≤ay.length∧aQ.kZ ay bG al dl d=true) (fun d=>[(17,.b (d:Int))]) (fun d=>[]) (fun d=>ay.length-d) 0 [1,2,3,15,16] ⟨by omega,rfl⟩ ?_
 rintro d ⟨R,j8⟩
 refine aU ?_ ?_
 refine I 0 ?_
 intros
 obtain ⟨dZ,ji⟩:=c4 (f:=ay) (b:=d) E
 refine aD 5 ?_
 intro sF
 refine w.A (aV.tT xV zL a (ax.b0 0 a) a E E) a<|w.n (U.makeFunc [sF] a) a ?_
 refine w.f (aq.fl call296 (avh 297 [sF] (fun y=>decide (y.O=dZ.O)) [ai sF [dZ.O,dZ.aR,dZ.jr,dZ.dr] 136] (j' dA 4 0 ((d:Int)).toNat) (ay.take ((d:Int)).toNat) (by exact (by exact call297)) (fun r=>ahD r sF dZ) vX) [] a a (.og 0 (akz E) a (.fy 0 a a .nil))) a ?_
 rintro _ _ ⟨_,⟨rfl,rfl⟩,rfl⟩
 refine I 0 ?_
 refine w.fz 29 a (fun dL=>?_) (fun dL=>?_)
 exact abQ
 refine P ahE ?_
 refine I 0 ?_
 refine K.cond a (fun hN=>?_) (fun hN=>?_)
 have lR:(aQ.right dZ bG al dl)=false:=c_ hN
 exact abQ
 have nc:(aQ.right dZ bG al dl)=true:=c_ hN
 refine I 1 ?_
 exact da (d+1) ⟨by omega,aQ.XD j8 ji bO bO⟩
 refine aF ?_
 intros
 exact aO ⟨(by rw [aQ.aht j8 E R E];rfl),a⟩
def ahB(bK bV b8 bG ch b' cf er es d' eO eP eQ:Int)(dA:Value)(ay:List cG)(al dl lA:Int)(S:ay.length≤100000):M prog 125 #[.agg #[bK,bV,b8,bG,ch,b',cf,er,es,d',eO,eP,eQ,dA],al,dl,lA] [bF dA 4 (ay.map cG.cells)] [] (fun m B=>m=.b (aQ.e7 [bK,bV,b8,bG,ch,b',cf,er,es,d',eO,eP,eQ] ay al dl lA)∧B=[]):=by
 refine M.aM func125 a ntmps125 a fun an=>?_
 refine I 0 ?_
 refine w.one (ax.b0 0 a) (fun n8=>?_)
 refine P ju ?_
 refine I 0 ?_
 intros
 refine w.fz 14 a (fun aZ=>?_) (fun aZ=>?_)
 refine P ju ?_
 refine I 0 ?_
 refine w.fz 19 a (fun c7=>?_) (fun c7=>?_)
 refine P ju ?_
 refine I 0 ?_
 refine w.fz 24 a (fun dL=>?_) (fun dL=>?_)
 refine P ju ?_
 refine P ju ?_
 refine I 0 ?_
 refine w.fz 32 a (fun lR=>?_) (fun lR=>?_)
 refine P ju ?_
 refine P ju ?_
 refine I 0 ?_
 refine w.fz 40 a (fun qX=>?_) (fun qX=>?_)
 have yh:(aQ.cg dl 1 8)=false:=c_ qX
 exact iN
 have oE:(aQ.cg dl 1 8)=true:=c_ qX
 refine I 0 ?_
 refine w.el (U.dg (U.lG a a sh)) a a ?_
 refine P ju ?_
 refine I 0 ?_
 refine w.fz 47 a (fun tZ=>?_) (fun tZ=>?_)
 have Cr:(aQ.cg al 0 (dl-1))=false:=c_ tZ
 exact iN
 have wI:(aQ.cg al 0 (dl-1))=true:=c_ tZ
 refine I 0 ?_
 refine w.fz 51 a (fun rL=>?_) (fun rL=>?_)
 have wJ:(aQ.cg bG 0 7)=false:=c_ rL
 exact iN
 have ajK:(aQ.cg bG 0 7)=true:=c_ rL
 refine I 0 ?_
 refine w.fz 55 a (fun wK=>?_) (fun wK=>?_)
 have wL:(aQ.cg b' 0 1099511627776)=false:=c_ wK
 exact iN
 have U7:(aQ.cg b' 0 1099511627776)=true:=c_ wK
 refine P (ahC bK bV b8 bG ch b' cf er es d' eO eP eQ dA ay al dl sh sh S) ?_
 refine I 0 ?_
 refine K.cond a (fun rM=>?_) (fun rM=>?_)
 have ER:(aQ.nu ay bG al dl)=false:=c_ rM
 exact iN
 have U8:(aQ.nu ay bG al dl)=true:=c_ rM
 refine P O5 ?_
 refine aF ?_
 exact aO ⟨(by rw [aQ.TX bO bO (by simp only [*,jV]) bO];rfl),a⟩
 refine P ju ?_
 refine I 0 ?_
 refine w.fz 40 a (fun Iu=>?_) (fun Iu=>?_)
 have ES:(aQ.cg dl 1 8)=false:=c_ Iu
 exact iN
 have U9:(aQ.cg dl 1 8)=true:=c_ Iu
 refine I 0 ?_
 refine w.el (U.dg (U.lG a a sh)) a a ?_
 refine P ju ?_
 refine I 0 ?_
 refine w.fz 47 a (fun ET=>?_) (fun ET=>?_)
 have Iv:(aQ.cg al 0 (dl-1))=false:=c_ ET
 exact iN
 have ajL:(aQ.cg al 0 (dl-1))=true:=c_ ET
 refine I 0 ?_
 refine w.fz 51 a (fun Iw=>?_) (fun Iw=>?_)
 have ayT:(aQ.cg bG 0 7)=false:=c_ Iw
 exact iN
 have ayU:(aQ.cg bG 0 7)=true:=c_ Iw
 exact iN
 refine P ju ?_
 refine I 0 ?_
 refine w.fz 32 a (fun z6=>?_) (fun z6=>?_)
 refine P ju ?_
 refine P ju ?_
 refine I 0 ?_
 refine w.fz 40 a (fun NA=>?_) (fun NA=>?_)
 have ayV:(aQ.cg dl 1 8)=false:=c_ NA
 exact iN
 have ayW:(aQ.cg dl 1 8)=true:=c_ NA
 refine I 0 ?_
 refine w.el (U.dg (U.lG a a sh)) a a ?_
 refine P ju ?_
 refine I 0 ?_
 refine w.fz 47 a (fun EU=>?_) (fun EU=>?_)
 have ayX:(aQ.cg al 0 (dl-1))=false:=c_ EU
 exact iN
 have ayY:(aQ.cg al 0 (dl-1))=true:=c_ EU
 exact iN
 refine P ju ?_
 refine I 0 ?_
 refine w.fz 40 a (fun NB=>?_) (fun NB=>?_)
 have ayZ:(aQ.cg dl 1 8)=false:=c_ NB
 exact iN
 have ay0:(aQ.cg dl 1 8)=true:=c_ NB
 refine I 0 ?_
 refine w.el (U.dg (U.lG a a sh)) a a ?_
 refine P ju ?_
 refine I 0 ?_
 refine w.fz 47 a (fun NC=>?_) (fun NC=>?_)
 have ay1:(aQ.cg al 0 (dl-1))=false:=c_ NC
 exact iN
 have ay2:(aQ.cg al 0 (dl-1))=true:=c_ NC
 exact iN
 refine P ju ?_
 refine I 0 ?_
 refine w.fz 32 a (fun u'=>?_) (fun u'=>?_)
 refine P ju ?_
 refine P ju ?_
 refine I 0 ?_
 refine w.fz 40 a (fun ND=>?_) (fun ND=>?_)
 have ay3:(aQ.cg dl 1 8)=false:=c_ ND
 exact iN
 have ay4:(aQ.cg dl 1 8)=true:=c_ ND
 refine I 0 ?_
 refine w.el (U.dg (U.lG a a sh)) a a ?_
 refine P ju ?_
 refine I 0 ?_
 refine w.fz 47 a (fun NE=>?_) (fun NE=>?_)
 have ay5:(aQ.cg al 0 (dl-1))=false:=c_ NE
 exact iN
 have Ix:(aQ.cg al 0 (dl-1))=true:=c_ NE
 exact iN
 refine P ju ?_
 refine I 0 ?_
 refine w.fz 40 a (fun NF=>?_) (fun NF=>?_)
 have Cs:(aQ.cg dl 1 8)=false:=c_ NF
 exact iN
 have ay6:(aQ.cg dl 1 8)=true:=c_ NF
 refine I 0 ?_
 refine w.el (U.dg (U.lG a a sh)) a a ?_
 refine P ju ?_
 refine I 0 ?_
 refine w.fz 47 a (fun NG=>?_) (fun NG=>?_)
 have ay7:(aQ.cg al 0 (dl-1))=false:=c_ NG
 exact iN
 have ay8:(aQ.cg al 0 (dl-1))=true:=c_ NG
 exact iN
 refine P ju ?_
 refine I 0 ?_
 refine w.fz 32 a (fun ajO=>?_) (fun ajO=>?_)
 refine P ju ?_
 refine P ju ?_
 refine I 0 ?_
 refine w.fz 40 a (fun NH=>?_) (fun NH=>?_)
 have ay9:(aQ.cg dl 1 8)=false:=c_ NH
 exact iN
 have ay_:(aQ.cg dl 1 8)=true:=c_ NH
 refine I 0 ?_
 refine w.el (U.dg (U.lG a a sh)) a a ?_
 refine P ju ?_
 refine I 0 ?_
 refine w.fz 47 a (fun NI=>?_) (fun NI=>?_)
 have ay':(aQ.cg al 0 (dl-1))=false:=c_ NI
 exact iN
 have aza:(aQ.cg al 0 (dl-1))=true:=c_ NI
 exact iN
 refine P ju ?_
 refine I 0 ?_
 refine w.fz 40 a (fun NJ=>?_) (fun NJ=>?_)
 have azb:(aQ.cg dl 1 8)=false:=c_ NJ
 exact iN
 have azc:(aQ.cg dl 1 8)=true:=c_ NJ
 refine I 0 ?_
 refine w.el (U.dg (U.lG a a sh)) a a ?_
 refine P ju ?_
 refine I 0 ?_
 refine w.fz 47 a (fun NK=>?_) (fun NK=>?_)
 have azd:(aQ.cg al 0 (dl-1))=false:=c_ NK
 exact iN
 have aze:(aQ.cg al 0 (dl-1))=true:=c_ NK
 exact iN
end Go.Proofs.YtohjlkjhpibkmaaGreatDoor
