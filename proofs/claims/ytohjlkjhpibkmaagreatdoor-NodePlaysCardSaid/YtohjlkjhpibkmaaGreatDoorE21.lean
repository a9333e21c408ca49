/-
  Walks, printed by a program of mine.
-/
import Derived.KernelRfl
import Derived.Test.YtohjlkjhpibkmaaGreatDoorE16
import Derived.Test.YtohjlkjhpibkmaaGreatDoorE19
import Derived.Test.YtohjlkjhpibkmaaGreatDoorE14
import Derived.Test.YtohjlkjhpibkmaaGreatDoorE20
set_option linter.all false
namespace Go.Proofs.YtohjlkjhpibkmaaGreatDoor
open Go Go.LK Go.Proofs.Tryz
set_option maxRecDepth 100000
set_option maxHeartbeats 4000000
def ahY(i aG y c f:Nat)(ap bm cb bJ bR b4 bY b_ cy aa aP:Int)(fG dG e9 fi im h' hP:Int):M prog 100 #[i,.agg #[fG,dG,e9,fi,im,h',hP]] [] [ai i [aG,y,ap,bm,cb,bJ,bR,b4,bY,b_,cy,c,f,aa,aP] 172] (fun m B=>(¬h7.e7 [fG,dG,e9,fi,im,h',hP] ap=0∧m=.b (h7.e7 [fG,dG,e9,fi,im,h',hP] ap)∧B=[ai i [aG,y,ap,bm,cb,bJ,bR,b4,bY,b_,cy,c,f,aa,aP] 172])∨m=.b 0∧h7.e7 [fG,dG,e9,fi,im,h',hP] ap=0∧B=[ai i [aG,y,ap,bm,fG,dG,e9,fi,im,h',hP,c,f,aa,aP] 172]):=by
 refine M.aM func100 a ntmps100 a fun an=>?_
 refine P Ch ?_
 refine I 0 ?_
 intros
 refine K.fD 5 Tryz.bE aN ?_
 refine P O5 ?_
 refine aU ?_ ?_
 refine aF ?_
 intros
 exact aO (Or.inl ⟨E,a,a⟩)
 refine aF ?_
 intros
 exact aO (Or.inr ⟨a,E,a⟩)
def T7(ap bm:Int)(fG dG e9 fi im h' hP:Int)(gB:1≤ap)(hm:ap≤128)(jl:0≤bm)(lh:bm≤7)(uf:h7.e7 [fG,dG,e9,fi,im,h',hP] ap=0):M prog 51 #[ap,bm,.agg #[fG,dG,e9,fi,im,h',hP]] [] [] (fun m B=>∃ i aG y c f,m=.tuple #[.n i,.b 0]∧B=[ai i [.n aG,.n y,ap,bm,fG,dG,e9,fi,im,h',hP,.n c,.n f,ap,.b 1] 172,ai aG [.b 0,.b 0] 309,ai y [.bool true,bm,bm,.b 32] 296,ai c ([Value.b ap]++(List.replicate 128 (0:Int)).map (Value.int .i64)) 302,ai f [.b 0,.b 0,.b 0] 311]):=by
 refine M.aM func51 a ntmps51 a fun an=>?_
 refine P akP ?_
 refine P ail ?_
 refine P O5 ?_
 refine I 0 ?_
 intro _ cS mG
 refine K.fZ a (p4 (fun au=>au uf)) ?_
 refine I 0 ?_
 refine K.ef (df [(1,5),(7,1),(0,0),(6,0),(8,1),(9,0),(10,2)]) [2] Tryz.bE aN a ?_
 refine P awn ?_
 intro tY
 refine P ao9 ?_
 intro Ip
 refine aF ?_
 intro aji
 exact aO ⟨aji,tY,mG,cS,Ip,a,a⟩
def awc(n:Nat)(bD:Int)(y:ab.ht)(O s x:Int):M prog 326 #[n,O,s,x] [ai n (ab.iC bD y) 215] [] (fun m B=>m=.bool (g.fI y bD O s x)∧B=[]):=by
 refine M.aM func326 a ntmps326 a fun an=>?_
 refine P Zy ?_
 refine I 2 ?_
 intros
 refine w.fz 19 a (fun aA=>?_) (fun aA=>?_)
 refine P Xd ?_
 exact acI
 exact acI
def aiN(gc EQ:Nat)(i:cG)(aR dN x a1:Int):M prog 323 #[gc,EQ] [ai gc [i.O,i.aR,i.jr,i.dr] 136,ai EQ [aR,dN,x,a1] 273] [] (fun m B=>m=.bool (decide ((if 0 > aR then 0 else aR) < i.aR))∧B=[]):=by
 refine M.aM func323 a ntmps323 a fun an=>?_
 refine I 2 ?_
 refine w.n (U.max a a) a ?_
 exact cH
def aiO(U0:Nat)(p:Bool):M prog 324 #[U0] [ai U0 [.bool p] 4] [] (fun m B=>m=.bool (!p)∧B=[]):=by
 refine M.aM func324 a ntmps324 a fun an=>?_
 exact cH
def aiP(gt gc EQ n:Nat)(bD:Int)(y:ab.ht)(i:cG)(aR dN x a1:Int):M prog 325 #[gt,gc,EQ] [ai gt [n] 88,ai gc [i.O,i.aR,i.jr,i.dr] 136,ai EQ [aR,dN,x,a1] 273,ai n (ab.iC bD y) 215] [] (fun m B=>m=.bool (g.fI y bD i.O dN x)∧B=[]):=by
 refine M.aM func325 a ntmps325 a fun an=>?_
 refine P awc ?_
 exact cH
def aiQ(n:Nat)(bD:Int)(y:ab.ht)(i:cG)(aR dN x a1:Int):M prog 270 #[.agg #[i.O,i.aR,i.jr,i.dr],.agg #[aR,dN,x,a1],n] [ai n (ab.iC bD y) 215] [] (fun m B=>m=.agg #[.b ((g.fX i aR dN x a1 (g.fI y bD i.O dN x)).O),.b ((g.fX i aR dN x a1 (g.fI y bD i.O dN x)).code),.b ((g.fX i aR dN x a1 (g.fI y bD i.O dN x)).a1),.b ((g.fX i aR dN x a1 (g.fI y bD i.O dN x)).bM),.bool ((g.fX i aR dN x a1 (g.fI y bD i.O dN x)).nK)]∧B=[]):=by
 refine M.aM func270 a ntmps270 a fun an=>?_
 refine P avf ?_
 refine I 2 ?_
 intro b9 cS dE _ _ tY
 refine w.n (U.makeFunc [b9,cS] a) a ?_
 refine I 1 ?_
 refine w.n (U.makeFunc [tY] a) a ?_
 refine I 1 ?_
 refine w.n (U.makeFunc [dE,b9,cS] a) a ?_
 refine I 1 ?_
 refine w.f (aq.fs ow.cells [(⟨11,.func (.func 323) #[] #[b9,cS],a⟩:ow),(⟨9,.func (.func 324) #[] #[tY],a⟩:ow),(⟨8,.func (.func 325) #[] #[dE,b9,cS],a⟩:ow)] runUnderlying374 sizeOf373 zeroValue373 a a a aN a a) a ?_
 rintro j1 _ rfl
 refine aD 1 ?_
 refine K.lH ?_
 refine I 0 ?_
 have sM:([(⟨11,.func (.func 323) #[] #[b9,cS],rfl⟩:ow),(⟨9,.func (.func 324) #[] #[tY],rfl⟩:ow),(⟨8,.func (.func 325) #[] #[dE,b9,cS],rfl⟩:ow)])[0]?=some (⟨11,.func (.func 323) #[] #[b9,cS],rfl⟩:ow):=rfl
 refine aD 5 ?_
 intros
 refine w.f (aq.dA call323 a a (aiN b9 cS i aR dN x a1) [] a (.fy 7 a a (.fy 6 a a .nil))) a ?_
 rintro _ _ ⟨_,⟨rfl,rfl⟩,rfl⟩
 refine aU ?_ ?_
 refine aF ?_
 intros
 exact LR
 refine aD 1 ?_
 intros
 refine K.again ?_
 refine I 0 ?_
 have aAk:([(⟨11,.func (.func 323) #[] #[b9,cS],rfl⟩:ow),(⟨9,.func (.func 324) #[] #[tY],rfl⟩:ow),(⟨8,.func (.func 325) #[] #[dE,b9,cS],rfl⟩:ow)])[1]?=some (⟨9,.func (.func 324) #[] #[tY],rfl⟩:ow):=rfl
 refine aD 5 ?_
 intros
 refine w.f (aq.dA call324 a a (aiO tY ((g.oB x a1 i.jr i.dr).2.2)) [] a (.fy 3 a a .nil)) a ?_
 rintro _ _ ⟨_,⟨rfl,rfl⟩,rfl⟩
 refine I 0 ?_
 refine K.cond a (fun oE=>?_) (fun oE=>?_)
 have sI:((g.oB x a1 i.jr i.dr).2.2)=false:=c_ oE
 refine aF ?_
 exact LR
 have tZ:((g.oB x a1 i.jr i.dr).2.2)=true:=c_ oE
 refine aD 1 ?_
 refine K.again ?_
 refine I 0 ?_
 have aAl:([(⟨11,.func (.func 323) #[] #[b9,cS],rfl⟩:ow),(⟨9,.func (.func 324) #[] #[tY],rfl⟩:ow),(⟨8,.func (.func 325) #[] #[dE,b9,cS],rfl⟩:ow)])[2]?=some (⟨8,.func (.func 325) #[] #[dE,b9,cS],rfl⟩:ow):=rfl
 refine aD 5 ?_
 intros
 refine w.f (aq.dA call325 a a (aiP dE b9 cS n bD y i aR dN x a1) [] a (.fy 7 a a (.fy 9 a a (.fy 8 a a (.b0 0 a .nil))))) a ?_
 rintro _ _ ⟨_,⟨rfl,rfl⟩,rfl⟩
 refine I 0 ?_
 refine K.cond a (fun wJ=>?_) (fun wJ=>?_)
 refine aF ?_
 exact LR
 refine aD 1 ?_
 refine K.again ?_
 refine aF ?_
 exact LR
def aiR(O jt a1 bM:Int)(nK:Bool):M prog 271 #[.agg #[O,jt,a1,bM,.bool nK]] [] [] (fun m B=>m=.bool nK∧B=[]):=by
 refine M.aM func271 a ntmps271 a fun an=>?_
 refine I 7 ?_
 intros
 refine w.n (U.aiM (dq:=#[O,.b 0,.b 0,.b 0,.bool nK]) (pr:=#[O,.b 0,.b 0,.b 0,.bool true]) eqGuardType241 (.struct underlying241 stoodInHeld241 (.cons a (j_ (m:=.b O) ds a) (j_ (m:=.b O) ds a) (.int e2) (.cons a (j_ (m:=.b 0) ds a) (j_ (m:=.b 0) ds a) (.int e2) (.cons a (j_ (m:=.b 0) ds a) (j_ (m:=.b 0) ds a) (.int e2) (.cons a (j_ (m:=.b 0) ds a) (j_ (m:=.b 0) ds a) (.int e2) (.cons a (j_ (m:=.bool nK) sk a) (j_ (m:=.bool true) sk a) (.bool Ml) .nil)))))) a a) a ?_
 refine aF ?_
 exact aO ⟨by simp [ed],rfl⟩
def Uw(n:Nat)(bD:Int)(y:ab.ht)(aR dN x a1:Int)(gq jQ Ki auV P8 auW auX auY Za auZ auT P7 auU:Int)(dA:Value)(cW:List cG)(Aj:Value.oneCell' dA=true)(S:cW.length≤100):M prog 190 #[.agg #[gq,jQ,Ki,auV,P8,auW,auX,auY,Za,auZ,auT,P7,auU,dA],.agg #[aR,dN,x,a1],n] [bF dA 4 (cW.map cG.cells),ai n (ab.iC bD y) 215] [] (fun m B=>∃ X,m=.agg #[.b (g.mw (fun i=>g.fX i aR dN x a1 (g.fI y bD i.O dN x)) cW).1,X]∧B=[row X 241 5 ((g.mw (fun i=>g.fX i aR dN x a1 (g.fI y bD i.O dN x)) cW).2.map gM.cells)]):=by
 refine M.aM func190 a ntmps190 a fun an=>K.eV 2 a ?_
 refine w.f (aq.pF a a) a ?_
 rintro _ _ ⟨b9,rfl,rfl⟩
 refine w.f (aq.pF a a) a ?_
 rintro _ _ ⟨cS,rfl,rfl⟩
 refine w.f (aq.iS zK a) a ?_
 rintro _ _ ⟨dE,rfl,rfl⟩
 refine w.e1 3 a ?_
 refine w.f (aq.iS zK a) a ?_
 rintro _ _ ⟨mG,rfl,rfl⟩
 refine w.dw 3 a<|K.fg 241 5 (([]:List gM).map gM.cells) a ?_
 refine I 1 ?_
 refine w.A (aV.jN xV a (ax.b0 0 a)) a ?_
 refine I 0 ?_
 refine K.gw (bo:=Nat×Value×List gM) (fun (d,X,ss)=>d≤cW.length∧g.tH (fun i=>g.fX i aR dN x a1 (g.fI y bD i.O dN x)) cW d∧ss=(cW.take d).map (fun i=>g.fX i aR dN x a1 (g.fI y bD i.O dN x))) (fun (d,X,ss)=>[(14,.b (d:Int))]) (fun (d,X,ss)=>[ai mG [.b 0,X] 236,row X 241 5 (ss.map gM.cells)]) (fun (d,X,ss)=>cW.length-d) ⟨0,Value.slice none 0 0,[]⟩ [2,4,6,7,12,13] [1,0] [3,2] ⟨by omega,g.tH.zero,rfl⟩ ⟨(hM E),trivial⟩ a a ?_
 rintro ⟨d,X,ss⟩ ⟨R,ko,hss⟩
 refine Ss ?_ ?_
 refine I 0 ?_
 intros
 obtain ⟨eE,jj⟩:=c4 (f:=cW) (b:=d) E
 refine w.A (aV.jy xV zL a (ax.b0 0 a) jj a kf) a<|w.A (aV.lX isAgg136 zL (ax.b0 0 a) jj 0 a E a) a ?_
 refine Tf (aiQ n bD y eE aR dN x a1) ?_
 refine I 3 ?_
 intros
 refine w.qC 25 a (fun pj=>?_) (fun pj=>?_)
 refine Tf (aiR ((g.fX eE aR dN x a1 (g.fI y bD eE.O dN x)).O) ((g.fX eE aR dN x a1 (g.fI y bD eE.O dN x)).code) ((g.fX eE aR dN x a1 (g.fI y bD eE.O dN x)).a1) ((g.fX eE aR dN x a1 (g.fI y bD eE.O dN x)).bM) ((g.fX eE aR dN x a1 (g.fI y bD eE.O dN x)).nK)) ?_
 refine I 0 ?_
 refine K.cond a (fun nc=>?_) (fun nc=>?_)
 refine K.eV 3 a<|w.A (aV.br 0 ds a a a) a<|w.n (U.build [(0,.b ((g.fX eE aR dN x a1 (g.fI y bD eE.O dN x)).code))] [.b ((g.fX eE aR dN x a1 (g.fI y bD eE.O dN x)).code),Value.slice none 0 0] #[(0,1),(1,1)] runUnderlying236 zK (X2 underlying236) a aN) a ?_
 refine w.cq (aq.dC 5 B6 a a a a a a a) ?_
 rintro _ _ rfl
 refine w.nil<|K.fg 241 5 (([]:List gM).map gM.cells) a ?_
 exact K.lE [_] [0] a ⟨⟨_,_,0,0,_,a,(eZ.ai 6 a),a,(fr.agg [.b ((g.fX eE aR dN x a1 (g.fI y bD eE.O dN x)).code),Value.slice none 0 0] isAgg236 B6 a a)⟩,trivial⟩ a (by (try dsimp only);rw [g.PL ko jj mT];exact ⟨_,rfl,rfl⟩)
 refine I 2 ?_
 refine w.f (aq.fs gM.cells [g.fX eE aR dN x a1 (g.fI y bD eE.O dN x)] zE zM xW a a a aN a a) a ?_
 rintro hc _ rfl
 refine w.f (aq.gg 4 BN CW a a a a a (ax.row 0 a) gM.one tw tw) a ?_
 rintro pA _ rfl
 refine I 0 ?_
 refine w.one (ax.row 4 a) (fun Cv=>?_)
 refine w.cq (aq.gy 3 B5 Cv a a a a) ?_
 rintro _ _ rfl
 refine I 1 ?_
 exact K.ms ⟨d+1,pA,ss++([g.fX eE aR dN x a1 (g.fI y bD eE.O dN x)])⟩ [2,4,6,7,12,13] [3,4] [5,6] ⟨by omega,ko.next jj mT,abr⟩ kR ⟨(hM E),trivial⟩ a a
 refine I 2 ?_
 refine w.f (aq.fs gM.cells [g.fX eE aR dN x a1 (g.fI y bD eE.O dN x)] zE zM xW a a a aN a a) a ?_
 rintro HE _ rfl
 refine w.f (aq.gg 4 BN CW a a a a a (ax.row 0 a) gM.one tw tw) a ?_
 rintro mD _ rfl
 refine I 0 ?_
 refine w.one (ax.row 4 a) (fun NO=>?_)
 refine w.cq (aq.gy 3 B5 NO a a a a) ?_
 rintro _ _ rfl
 refine I 1 ?_
 exact K.ms ⟨d+1,mD,ss++([g.fX eE aR dN x a1 (g.fI y bD eE.O dN x)])⟩ [2,4,6,7,12,13] [3,4] [5,6] ⟨by omega,ko.next jj mT,abr⟩ kR ⟨(hM E),trivial⟩ a a
 refine I 1 ?_
 intros
 refine w.one (ax.row 1 a) (fun t'=>?_)
 refine I 1 ?_
 exact K.lE [_] [1] a ⟨⟨_,_,0,0,_,a,(eZ.ai 3 a),a,(fr.agg [.b 0,X] isAgg236 B6 a a)⟩,trivial⟩ a aaR
end Go.Proofs.YtohjlkjhpibkmaaGreatDoor
