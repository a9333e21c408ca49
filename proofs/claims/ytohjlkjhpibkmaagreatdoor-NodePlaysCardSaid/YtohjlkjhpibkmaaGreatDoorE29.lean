/-
  Rules and plain laws that the walks use.
-/
import Derived.KernelRfl
import Derived.Test.YtohjlkjhpibkmaaGreatDoorE16
import Derived.Test.YtohjlkjhpibkmaaGreatDoorE25
import Derived.Test.YtohjlkjhpibkmaaGreatDoorE28
import Derived.Test.YtohjlkjhpibkmaaGreatDoorE15
import Derived.Test.YtohjlkjhpibkmaaGreatDoorE20
set_option linter.all false
namespace Go.Proofs.YtohjlkjhpibkmaaGreatDoor
open Go Go.LK Go.Proofs.Tryz
set_option maxRecDepth 100000
set_option maxHeartbeats 4000000
def PS(br:Value)(f:List cI)(i:Int)(S:f.length≤100000):M prog 163 #[br,i] [bF br 2 (f.map cI.cells)] [] (fun m B=>m=.tuple #[.b ((bj.dX f i).getD 0),.bool (bj.dX f i).isSome]∧B=[]):=by
 refine M.aM func163 a ntmps163 a fun an=>?_
 refine I 0 ?_
 refine de (bo:=Nat) (fun d=>d≤f.length∧bj.dX f i=bj.dX (f.drop d) i) (fun d=>[(6,.b (d:Int))]) (fun d=>[]) (fun d=>f.length-d) 0 [0,1] ⟨by omega,rfl⟩ ?_
 rintro d ⟨R,dy⟩
 refine aU ?_ ?_
 refine I 0 ?_
 intros
 obtain ⟨bP,dJ⟩:=c4 (f:=f) (b:=d) E
 refine aU ?_ ?_
 refine aF ?_
 intros
 exact aO ⟨(by rw [bj.aot dy dJ bO];rfl),a⟩
 refine I 1 ?_
 intros
 exact da (d+1) ⟨by omega,bj.aov dy dJ bO⟩
 refine aF ?_
 intros
 exact aO ⟨(by rw [bj.aou dy E];rfl),a⟩
def att(br:Value)(f:List cI)(i:Int)(S:f.length≤100000)(c:(bj.dX f i).isSome=true):M prog 163 #[br,i] [bF br 2 (f.map cI.cells)] [] (fun m B=>m=.tuple #[.b ((bj.dX f i).getD 0),.bool true]∧B=[]):=by
 rw [←c];exact PS br f i S
def atu(br:Value)(f:List cI)(i:Int)(S:f.length≤100000)(c:(bj.dX f i).isSome=false):M prog 163 #[br,i] [bF br 2 (f.map cI.cells)] [] (fun m B=>m=.tuple #[.b ((bj.dX f i).getD 0),.bool false]∧B=[]):=by
 rw [←c];exact PS br f i S
def Yn(br:Value)(f:List cI)(i k:Int)(S:f.length≤100000)(c:(bj.dX f i).isSome=true):M prog 160 #[br,i,k] [bF br 2 (f.map cI.cells)] [] (fun m B=>m=.tuple #[br,.bool false]∧B=[]):=by
 refine M.aM func160 a ntmps160 a fun an=>?_
 refine P att ?_
 exact cH
def Yo(br:Value)(f:List cI)(i k:Int)(S:f.length≤100000)(c:(bj.dX f i).isSome=false):M prog 160 #[br,i,k] [bF br 2 (f.map cI.cells)] [] (fun m B=>∃ eJ,m=.tuple #[eJ,.bool true]∧B=[row eJ 320 2 ((bj.hO f i k).map cI.cells)]):=by
 refine M.aM func160 a ntmps160 a fun an=>?_
 refine P atu ?_
 refine I 0 ?_
 refine de (bo:=Nat) (fun d=>d≤f.length∧bj.xG f i d) (fun d=>[(10,.b (d:Int))]) (fun d=>[]) (fun d=>f.length-d) 0 [0,1,2,6,7] ⟨by omega,bj.xG.zero⟩ ?_
 rintro d ⟨R,V⟩
 refine aU (fun fp=>?_) (fun fp=>?_)
 refine I 0 ?_
 obtain ⟨cP,il⟩:=c4 (f:=f) (b:=d) E
 refine aU ?_ ?_
 refine I 1 ?_
 intros
 exact da (d+1) ⟨by omega,V.next il bO⟩
 refine I 0 ?_
 intros
 refine w.A (aV.tT wo wz a (ax.b0 0 a) a E E) a<|w.fg 320 2 (([]:List cI).map cI.cells) a ?_
 refine w.f (aq.gg 0 D' yB a a a a a (ax.head (f:=f) (ax.b0 0 a) E) cI.one co co) a ?_
 rintro lv _ rfl
 refine I 1 ?_
 refine w.f (aq.fs cI.cells [(⟨i,k⟩:cI)] wo wz Ew a a a aN a a) a ?_
 rintro pB _ rfl
 refine aD 1 ?_
 intro zI
 refine w.A (aV.tU wo wz a (ax.b0 0 a) a E E) a ?_
 refine w.f (aq.gg 1 D' yB a a a a a (ax.tail (f:=f) (ax.b0 0 a) E a) cI.one co co) a ?_
 rintro j1 _ rfl
 refine I 0 ?_
 refine aF ?_
 exact aO ⟨j1,a,dz (fun (aI:List cI)=>([row j1 320 2 (aI.map cI.cells)]:List aB)) (show ((([]:List cI)++(f.take ((d:Int)).toNat))++([(⟨i,k⟩:cI)]))++(f.drop ((d:Int)).toNat)=bj.hO f i k from (by rw [←bj.OQ V E (fun zV nf=>(by rw [il] at nf;cases nf;assumption))];simp))⟩
 refine I 0 ?_
 refine w.A (aV.tT wo wz a (ax.b0 0 a) a E E) a<|w.fg 320 2 (([]:List cI).map cI.cells) a ?_
 refine w.f (aq.gg 0 D' yB a a a a a (ax.head (f:=f) (ax.b0 0 a) E) cI.one co co) a ?_
 rintro k' _ rfl
 refine I 1 ?_
 refine w.f (aq.fs cI.cells [(⟨i,k⟩:cI)] wo wz Ew a a a aN a a) a ?_
 rintro pz _ rfl
 refine aD 1 ?_
 intro qg
 refine w.A (aV.tU wo wz a (ax.b0 0 a) a E E) a ?_
 refine w.f (aq.gg 1 D' yB a a a a a (ax.tail (f:=f) (ax.b0 0 a) E a) cI.one co co) a ?_
 rintro mX _ rfl
 refine I 0 ?_
 refine aF ?_
 exact aO ⟨mX,a,dz (fun (aI:List cI)=>([row mX 320 2 (aI.map cI.cells)]:List aB)) (show ((([]:List cI)++(f.take ((d:Int)).toNat))++([(⟨i,k⟩:cI)]))++(f.drop ((d:Int)).toNat)=bj.hO f i k from (by rw [←bj.OQ V E (fun zV nf=>(by rw [vU E] at nf;cases nf))];simp))⟩
def Yp(br:Value)(f:List cI)(i:Int)(S:f.length≤100000):M prog 164 #[br,i] [bF br 2 (f.map cI.cells)] [] (fun m B=>B=[row m 320 2 ((bj.c8 f i).map cI.cells)]):=by
 refine M.aM func164 a ntmps164 a fun an=>K.fC 14 a<|K.lC 320 2 ?_
 refine de (bo:=Nat×Value×List cI) (fun (d,X,v)=>d≤f.length∧v=bj.c8 (f.take d) i∧v.length≤d) (fun (d,X,v)=>[(5,X),(6,.b (d:Int))]) (fun (d,X,v)=>[row X 320 2 (v.map cI.cells)]) (fun (d,X,v)=>f.length-d) ⟨0,Value.slice none 0 0,[]⟩ [0,1,4] ⟨by omega,by simp [bj.c8],by simp⟩ ?_
 rintro ⟨d,X,v⟩ ⟨R,ci,gI⟩
 refine aU ?_ ?_
 refine I 0 ?_
 intros
 obtain ⟨bP,dJ⟩:=c4 (f:=f) (b:=d) E
 refine aU ?_ ?_
 refine aD 2 ?_
 intros
 refine w.f (aq.fs cI.cells [bP] wo wz Ew a a a aN a a) a ?_
 rintro fd _ rfl
 refine aD 2 ?_
 intro lv
 exact da ⟨d+1,lv,v++([bP])⟩ ⟨by omega,aaK,hq⟩
 refine I 1 ?_
 intros
 exact da ⟨d+1,X,v⟩ ⟨by omega,aaK,hq⟩
 refine aF ?_
 intros
 exact aO (dz (fun (aI:List cI)=>([row X 320 2 (aI.map cI.cells)]:List aB)) (show v=bj.c8 f i from DM))
def ats(br:Value)(f:List cI)(i:Int)(S:f.length≤100000):M prog 242 #[br,i] [bF br 2 (f.map cI.cells)] [] (fun m B=>B=[row m 320 2 ((bj.drop f i).map cI.cells)]):=by
 refine M.aM func242 a ntmps242 a fun an=>K.fC 14 a<|K.lC 320 2 ?_
 refine de (bo:=Nat×Value×List cI) (fun (d,X,v)=>d≤f.length∧v=bj.drop (f.take d) i∧v.length≤d) (fun (d,X,v)=>[(5,X),(6,.b (d:Int))]) (fun (d,X,v)=>[row X 320 2 (v.map cI.cells)]) (fun (d,X,v)=>f.length-d) ⟨0,Value.slice none 0 0,[]⟩ [0,1,4] ⟨by omega,by simp [bj.drop],by simp⟩ ?_
 rintro ⟨d,X,v⟩ ⟨R,ci,gI⟩
 refine aU ?_ ?_
 refine I 0 ?_
 intros
 obtain ⟨bP,dJ⟩:=c4 (f:=f) (b:=d) E
 refine aU ?_ ?_
 refine aD 2 ?_
 intros
 refine w.f (aq.fs cI.cells [bP] wo wz Ew a a a aN a a) a ?_
 rintro fd _ rfl
 refine aD 2 ?_
 intro lv
 exact da ⟨d+1,lv,v++([bP])⟩ ⟨by omega,aaM,hq⟩
 refine I 1 ?_
 intros
 exact da ⟨d+1,X,v⟩ ⟨by omega,aaM,hq⟩
 refine aF ?_
 intros
 exact aO (dz (fun (aI:List cI)=>([row X 320 2 (aI.map cI.cells)]:List aB)) (show v=bj.drop f i from DM))
def re(h:g.b3)(ah:g.ct)(q:g.cu)(v:Nat)(dS dK:Value)(dn:List aK)(eT:List bk)(bu:List a7)(d:Nat)(r:a7)(code:Int)(aC:dn.length≤99990)(bc:eT.length≤99990)(ga:Value.oneCell' ah.jU=true)(sW:Value.oneCell' ah.fj=true)(S:bu.length≤1000)(AJ:q.j.length≤90000)(ne:bu[d]?=some r):M prog 158 #[ah.s,v,.b (d:Int),code] [] [ai ah.s (g.kt h ah q) 125,ai v [dS,dK] 36,row dS 51 7 (dn.map aK.cells),row dK 62 23 (eT.map bk.cells),row ah.jU 68 9 (bu.map a7.cells),c1 (bu.map (a7.row 3)),row ah.fj 320 2 (q.j.map cI.cells)] (fun m B=>∃ ha ij ZU,m=.tuple #[]∧B=[ai ah.s (g.kt h ({ ah with fj:=ZU }:g.ct) q) 125,ai v [ha,ij] 36,row ha 51 7 ((dn++[g.ek q.x h.al (r.e,code)]).map aK.cells),row ij 62 23 ((eT++[g.eB h.al q.d (r.e,code)]).map bk.cells),row ah.jU 68 9 ((bu.set d a7.zero).map a7.cells),c1 ((bu.set d a7.zero).map (a7.row 3)),row ZU 320 2 ((bj.drop q.j r.e.id).map cI.cells)]):=by
 have kF:Value.oneCell' (Value.slice none 0 0)=true:=rfl
 refine M.aM func158 a ntmps158 a fun an=>?_
 refine aD 8 ?_
 intros
 refine w.cq (aq.jS 5 (k:=d) (off:=0) (ae:=[.b 0,.b 0,.b 0,.b 0,.b 0,.b 0,.b 0,.b 0,Value.slice none 0 0]) (r:=r) (⟨(⟨0,0,0,0,0,0,0⟩:T),0,Value.slice none 0 0,[],kF⟩:a7) a a a a E ne a j3 a a abt a a) ?_
 rintro _ _ rfl
 refine I 0 ?_
 refine K.ef (df [(0,7),(7,0),(8,2),(10,0)]) [0,1] Tryz.bE aN a<|aL.Z 4 a<|aL.A a (aV.br 1 isAgg123 a a a) a<|aL.Z 1 a<|aL.A a (aV.br 0 ds a a a) a ?_
 refine aL.f a (aq.fl call242 (ats ah.fj q.j r.e.id E) [] a a (.eo 7 jz a a .nil)) a ?_
 rintro p2 _ ⟨_,rfl,rfl⟩
 refine aD 1 ?_
 refine aL.one a (fun _ c=>by cases c<;>rfl) (ax.row 0 a) (fun Cx=>?_)
 refine aL.cq a (aq.gy 2 xZ Cx a a a a) ?_
 rintro _ _ rfl
 refine P (vE h ({ ah with fj:=p2 }:g.ct) q v dS dK dn eT r.e code) ?_
 rintro _ _ ⟨Md,F7,rfl,rfl⟩
 refine w.nil<|K.fg 3 1 (([]:List Int).map bH) a<|K.hv (a'.trans (a'.bz [0,8,1,2,3,4,5,6,7,9] a) (a'.lx (yE ne (⟨(⟨0,0,0,0,0,0,0⟩:T),0,Value.slice none 0 0,[],kF⟩:a7)))) ?_
 refine aF ?_
 exact aO ⟨_,_,p2,a,a⟩
def at7(h:g.b3)(ah:g.ct)(q:g.cu)(bu:List a7)(id:Int)(S:bu.length≤1000)(ga:Value.oneCell' ah.jU=true):M prog 156 #[ah.s,id] [ai ah.s (g.kt h ah q) 125,bF ah.jU 9 (bu.map a7.cells)] [] (fun m B=>m=.tuple #[.b (g.vQ (bu.map a7.cL) id).1,.b (g.vQ (bu.map a7.cL) id).2]∧B=[]):=by
 refine M.aM func156 a ntmps156 a fun an=>?_
 refine P Kb ?_
 refine I 0 ?_
 rcases g.OX bu id with ft|⟨eb,a8,ft,iy,gj,n',n_⟩
 rw [ft,show g.CU none=-1 from rfl]
 refine aF ?_
 exact Sh
 rw [ft,show g.CU (some eb)=(eb:Int) from rfl]
 refine aU ?_ ?_
 refine aF ?_
 intros
 exact Sh
 refine aF ?_
 intros
 exact Sh
def YJ(h:g.b3)(ah:g.ct)(q:g.cu)(bu:List a7)(S:bu.length≤1000)(ga:Value.oneCell' ah.jU=true):M prog 62 #[ah.s] [ai ah.s (g.kt h ah q) 125,bF ah.jU 9 (bu.map a7.cells)] [] (fun m B=>B=[row m 68 9 ((bu.filter (fun k:a7=>decide (k.bg≠0))).map a7.cells)]):=by
 refine M.aM func62 a ntmps62 a fun an=>K.fC 10 a<|K.fg 68 9 (([]:List a7).map a7.cells) a ?_
 refine I 0 ?_
 refine de (bo:=Nat×Value×List a7) (fun (d,X,aG)=>d≤bu.length∧aG=(bu.take d).filter (fun k:a7=>decide (k.bg≠0))∧aG.length≤d) (fun (d,X,aG)=>[(3,X),(4,.b (d:Int))]) (fun (d,X,aG)=>[row X 68 9 (aG.map a7.cells)]) (fun (d,X,aG)=>bu.length-d) ⟨0,Value.slice none 0 0,[]⟩ [0,2] ⟨by omega,rfl,by simp⟩ ?_
 rintro ⟨d,X,aG⟩ ⟨R,bw,q6⟩
 refine aU ?_ ?_
 refine I 1 ?_
 intros
 obtain ⟨bP,dJ⟩:=c4 (f:=bu) (b:=d) E
 refine aU ?_ ?_
 refine aD 3 ?_
 intros
 refine w.f (aq.fs a7.cells [bP] ws j3 j2 a a a (by obtain ⟨oP,aA7,awE,aAY,aq8⟩:=bP;cases awE<;>first|(simp [Value.oneCell'] at aq8;done)|kernel_rfl) a a) a ?_
 rintro fd _ rfl
 refine aD 2 ?_
 intro lv
 exact da ⟨d+1,lv,aG++([bP])⟩ ⟨by omega,(by rw [hx,dJ,jg,←bw];simp [*]),hq⟩
 refine I 1 ?_
 intros
 exact da ⟨d+1,X,aG⟩ ⟨by omega,(by rw [hx,dJ,jg,←bw];simp [*]),E⟩
 refine I 0 ?_
 intros
 exact K.l2 [0] a a a (by rw [bw,ir E];rfl)
def PR(l p i y r z L:Int)(t:Int):M prog 139 #[.agg #[l,p,i,y,r,z,L],t] [] [] (fun m B=>m=.b (h7.e7 [l,p,i,y,r,z,L] t)∧B=[]):=by
 refine M.aM func139 a ntmps139 a fun an=>?_
 refine aD 1 ?_
 intros
 refine aU (fun fp=>?_) (fun fp=>?_)
 refine aF ?_
 exact jX
 refine aU (fun e_=>?_) (fun e_=>?_)
 refine aF ?_
 exact jX
 refine aU (fun jP=>?_) (fun jP=>?_)
 refine aF ?_
 exact jX
 refine aU (fun iV=>?_) (fun iV=>?_)
 refine aF ?_
 exact jX
 refine aU (fun iW=>?_) (fun iW=>?_)
 refine aF ?_
 exact jX
 refine aU (fun j9=>?_) (fun j9=>?_)
 refine aF ?_
 exact jX
 refine aU (fun kM=>?_) (fun kM=>?_)
 refine aF ?_
 exact jX
 refine aU (fun s6=>?_) (fun s6=>?_)
 refine aF ?_
 exact jX
 refine aU ?_ ?_
 refine aF ?_
 intros
 exact jX
 refine aD 1 ?_
 intros
 refine aU (fun qy=>?_) (fun qy=>?_)
 refine aF ?_
 exact jX
 refine aU (fun s4=>?_) (fun s4=>?_)
 refine aF ?_
 exact jX
 refine aU (fun mQ=>?_) (fun mQ=>?_)
 refine aF ?_
 exact jX
 refine aU (fun s5=>?_) (fun s5=>?_)
 refine aF ?_
 exact jX
 refine aU (fun FU=>?_) (fun FU=>?_)
 refine aF ?_
 exact jX
 refine aU ?_ ?_
 refine aF ?_
 intros
 exact jX
 refine aF ?_
 intros
 exact acQ
def ata(l p i y r z L:Int):M prog 246 #[.agg #[l,p,i,y,r,z,L]] [] [] (fun m B=>B=[row m 3 1 ([l,p,i,y,r,z,L].map bH)]):=by
 refine M.aM func246 a ntmps246 a fun an=>?_
 refine I 8 ?_
 intros
 refine w.f (aq.fs bH [l,p,i,y,r,z,L] gz dt iF a a a aN a a) a ?_
 rintro wu _ rfl
 exact cH
def YY(ap bm fG dG e9 fi im h' hP:Int)(gB:1≤ap)(hm:ap≤128)(jl:0≤bm)(lh:bm≤7)(uf:h7.e7 [fG,dG,e9,fi,im,h',hP] ap=0):M prog 58 #[ap,bm,.agg #[fG,dG,e9,fi,im,h',hP]] [] [] (fun m B=>∃ X,m=.tuple #[.agg #[ap,fG,dG,e9,fi,im,h',hP,X,Value.slice none 0 0,.b 0,.b 0,bm,bm,.b 32,ap,.b 1],.b 0]∧B=[row X 3 1 ((List.replicate ap.toNat (0:Int)).map bH)]):=by
 refine M.aM func58 a ntmps58 a fun an=>?_
 refine I 2 ?_
 intros
 refine w.kK 10 a (p4 E) ?_
 refine I 0 ?_
 refine w.kK 14 a (p4 E) ?_
 refine I 0 ?_
 refine w.kK 18 a (p4 E) ?_
 refine I 0 ?_
 refine K.fZ a (p4 E) ?_
 refine P PR ?_
 refine I 0 ?_
 refine K.fZ a (p4 (fun au=>au uf)) ?_
 refine I 0 ?_
 refine K.ef (df [(0,3),(4,3),(3,0),(7,1),(8,0),(9,1)]) [1] Tryz.bE aN a ?_
 refine P YZ ?_
 refine aD 0 ?_
 refine aL.f a (aq.yH (aI:=(0:Int)) (z:=bH) (t:=ap.toNat) (H:=1) (bytes:=8) gz (fun j=>run_typeInfo j DN) GZ dt iF a a E E bd a a bd a) a ?_
 rintro fd _ rfl
 refine gr.kV [0,2] [1] a a<|aL.A a (aV.JH (ax.row 0 a) (fun Cx=>(U.dg (U.build [(0,.b ap),(1,.agg #[fG,dG,e9,fi,im,h',hP]),(2,fd),(5,.agg #[bm,bm,.b 32]),(6,.b ap),(7,.b 1)] [ap,fG,dG,e9,fi,im,h',hP,fd,Value.slice none 0 0,.b 0,.b 0,bm,bm,.b 32,ap,.b 1] #[(0,1),(1,7),(8,1),(9,1),(10,2),(12,3),(15,1),(16,1)] Hw zeroValue120 (ar5 underlying120) a (by cases fd<;>first|(simp [Value.oneCell'] at Cx;done)|(kernel_rfl;done)))))) a ?_
 refine aL.one a (fun _ c=>by cases c<;>rfl) (ax.row 0 a) (fun o_=>?_)
 exact cH
def auF(O bS cb bJ bR b4 bY b_ cy:Int):M prog 166 #[.agg #[O,bS,cb,bJ,bR,b4,bY,b_,cy]] [] [] (fun m B=>m=.b (if g.qw O [O,bS,cb,bJ,bR,b4,bY,b_,cy]=true then (0:Int) else 1)∧B=[]):=by
 refine M.aM func166 a ntmps166 a fun an=>?_
 refine I 2 ?_
 intros
 refine w.f (aq.fl call246 (ata cb bJ bR b4 bY b_ cy) [] a a .nil) a ?_
 rintro iK _ ⟨_,rfl,rfl⟩
 refine I 0 ?_
 refine de (bo:=Nat) (fun d=>d≤7∧∀ (k:Nat) (e:Int),k < d→([cb,bJ,bR,b4,bY,b_,cy])[k]?=some e→0≤e∧e≤65535∧(1 < k→e≤255)) (fun d=>[(4,.b (d:Int))]) (fun d=>[]) (fun d=>7-d) 0 [1,3] ⟨by omega,fun k e au=>absurd au (ts k)⟩ ?_
 rintro d ⟨R,fw⟩
 refine aU ?_ ?_
 refine I 0 ?_
 intros
 obtain ⟨cQ,h3⟩:=c4 (f:=[cb,bJ,bR,b4,bY,b_,cy]) (b:=d) E
 refine aU (fun iV=>?_) (fun iV=>?_)
 refine aF ?_
 exact R7
 refine aU (fun iW=>?_) (fun iW=>?_)
 refine aF ?_
 exact R7
 refine aU (fun j9=>?_) (fun j9=>?_)
 refine aU ?_ ?_
 refine aF ?_
 intros
 exact R7
 refine I 1 ?_
 intros
 exact da (d+1) ⟨Rf,fun gl oP CH nC=>by rcases mR gl d with au|au;(· exact fw gl oP au nC);(· obtain rfl:gl=d:=E;rw [h3] at nC;cases nC;omega)⟩ Rf
 refine I 1 ?_
 exact da (d+1) ⟨Rf,fun gl oP CH nC=>by rcases mR gl d with au|au;(· exact fw gl oP au nC);(· obtain rfl:gl=d:=E;rw [h3] at nC;cases nC;omega)⟩
 refine aD 1 ?_
 intros
 refine aU (fun s6=>?_) (fun s6=>?_)
 refine aF ?_
 exact Hc
 refine aU (fun pj=>?_) (fun pj=>?_)
 refine aF ?_
 exact Hc
 refine aU (fun qy=>?_) (fun qy=>?_)
 refine aF ?_
 exact Hc
 refine aU ?_ ?_
 refine aF ?_
 intros
 exact Hc
 refine aF ?_
 intros
 exact Hc
def at4(h:g.b3)(ah:g.ct)(q:g.cu)(bu:List a7)(S:bu.length≤1000)(ga:Value.oneCell' ah.jU=true)(c:g.nw (bu.map a7.cL)=none):M prog 239 #[ah.s] [ai ah.s (g.kt h ah q) 125,bF ah.jU 9 (bu.map a7.cells)] [] (fun m B=>m=.b (-1)∧B=[]):=by
 exact acU
def YN(h:g.b3)(ah:g.ct)(q:g.cu)(bu:List a7)(S:bu.length≤1000)(ga:Value.oneCell' ah.jU=true)(b:Nat)(c:g.nw (bu.map a7.cL)=some b):M prog 239 #[ah.s] [ai ah.s (g.kt h ah q) 125,bF ah.jU 9 (bu.map a7.cells)] [] (fun m B=>m=.b (b:Int)∧B=[]):=by
 exact acU
def ku(h:g.b3)(ah:g.ct)(q:g.cu)(v:Nat)(dS dK:Value)(dn:List aK)(eT:List bk)(bu:List a7)(aJ:List Int)(aC:dn.length+q.A.length≤90000)(kH:Value.oneCell' ah.e5=true)(ga:Value.oneCell' ah.jU=true)(kG:Value.oneCell' ah.gK=true)(gN:Value.oneCell' ah.eD=true)(S:bu.length≤1000)(ad:bu.map a7.cL=q.n)(bU:g.rz q.d aJ)(ix:aJ.length+q.A.length≤90000):M prog 155 #[ah.s,v] [] [ai ah.s (g.kt h ah q) 125,ai v [dS,dK] 36,row dS 51 7 (dn.map aK.cells),row ah.e5 66 7 (q.A.map T.cells),row ah.jU 68 9 (bu.map a7.cells),c1 (bu.map (a7.row 3)),row ah.eD 3 1 (aJ.map bH)] (fun m B=>∃ (ha ZV ZW:Value) (dY:List Int) (jn:List a7),m=.tuple #[]∧jn.map a7.cL=(g.fx h q dn eT).1.n∧g.rz (g.fx h q dn eT).1.d dY∧dY.length≤aJ.length+q.A.length∧jn.length=bu.length∧(g.fx h q dn eT).2.1.length≤dn.length+q.A.length∧B=[ai ah.s (g.kt h ({ ah with e5:=ZV,eD:=ZW }:g.ct) (g.fx h q dn eT).1) 125,ai v [ha,dK] 36,row ha 51 7 (((g.fx h q dn eT).2.1).map aK.cells),row ZV 66 7 (((g.fx h q dn eT).1.A).map T.cells),row ah.jU 68 9 (jn.map a7.cells),c1 (jn.map (a7.row 3)),row ZW 3 1 (dY.map bH)]):=by
 have kF:Value.oneCell' (Value.slice none 0 0)=true:=rfl
 refine M.aM func155 a ntmps155 a fun an=>?_
 refine I 0 ?_
 refine de (bo:=Value×Value×Value×List T×g.dM×List a7×List aK×List Int) (fun (ww,Vw,EV1,ep,bJ,r1,eX,eS)=>g.wg h q dn aJ ep (r1.map a7.cL) bJ eX eS∧Value.oneCell' ww=true∧Value.oneCell' Vw=true∧r1.length=bu.length) (fun (ww,Vw,EV1,ep,bJ,r1,eX,eS)=>[]) (fun (ww,Vw,EV1,ep,bJ,r1,eX,eS)=>[ai ah.s (g.kt h ({ ah with eD:=Vw,e5:=ww }:g.ct) q) 125,ai v [EV1,dK] 36,row EV1 51 7 (eX.map aK.cells),row ww 66 7 (ep.map T.cells),row ah.jU 68 9 (r1.map a7.cells),c1 (r1.map (a7.row 3)),row Vw 3 1 (eS.map bH)]) (fun (ww,Vw,EV1,ep,bJ,r1,eX,eS)=>ep.length) ⟨ah.e5,ah.eD,dS,q.A,q.d,bu,dn,aJ⟩ [0,1] ⟨by rw [ad];exact g.wg.zero bU,kH,gN,rfl⟩ ?_
 rintro ⟨ww,Vw,EV1,ep,bJ,r1,eX,eS⟩ ⟨ml,mm,gk,pb⟩
 refine I 0 ?_
 rcases g.ai_ r1 with sO|⟨eb,a8,sO,iy⟩
 refine P (at4 h ({ ah with eD:=Vw,e5:=ww }:g.ct) q r1) ?_
 refine I 0 ?_
 exact K.H_ [] [0,1,2,3,4,5,6] a trivial a (by simp only [g.Yq];rw [ml.done (aH:=eT) (.inl sO)];have e4:=ml.s1;have dx:=ml.Pw;exact ⟨_,_,_,_,_,rfl,rfl,ml.b1,E,pb,kR,rfl⟩)
 refine P (YN h ({ ah with eD:=Vw,e5:=ww }:g.ct) q r1) ?_
 refine I 0 ?_
 refine w.od 10 a (c9 E) ?_
 refine aU ?_ ?_
 refine I 1 ?_
 intros
 obtain ⟨cQ,h3⟩:=c4 (f:=ep) (b:=0) E
 refine aD 5 ?_
 intros
 refine w.A (aV.tU iR gE a (ax.row 4 a) a E E) a<|w.fg 66 7 (([]:List T).map T.cells) a ?_
 refine w.f (aq.gg 0 px oc a a a a a (ax.tail (f:=ep) (ax.row 5 a) E a) T.one G7 G7) a ?_
 rintro pB _ rfl
 refine I 0 ?_
 refine w.one (ax.row 0 a) (fun ua=>?_)
 refine w.cq (aq.gy 2 pE ua a a a a) ?_
 rintro _ _ rfl
 refine I 0 ?_
 refine K.hW 9 Tryz.bE aN ?_
 refine P (YN h ({ ah with eD:=Vw,e5:=pB }:g.ct) q r1) ?_
 refine aD 3 ?_
 refine w.cq (aq.jS 6 (k:=eb) (off:=0) (ae:=[cQ.id,cQ.am,cQ.cg,cQ.ck,cQ.eN,cQ.dm,cQ.seq,.b 1,Value.slice none 0 0]) (r:=a8) (⟨cQ,1,Value.slice none 0 0,[],kF⟩:a7) a a a a kR iy a j3 a a abt a a) ?_
 rintro _ _ rfl
 refine w.dw 2 a<|K.fg 3 1 (([]:List Int).map bH) a<|K.hv (a'.trans (a'.bz [0,8,1,2,3,4,5,6,7,9] a) (a'.lx (yE iy (⟨cQ,1,Value.slice none 0 0,[],kF⟩:a7))))<|K.fD 6 Tryz.bE aN ?_
 refine P Ke ?_
 refine P (auR h.ap q.d.cb q.d.bJ q.d.bR q.d.b4 q.d.bY q.d.b_ q.d.cy q.d.cA q.d.held h.bm q.d.aR q.d.gh q.d.aa q.d.aP ah.gK Vw eS (ab.left q.x cQ.dm) kG gk G7) ?_
 refine I 0 ?_
 intro pz
 refine w.one (ax.row 0 a) (fun t_=>?_)
 refine P (k0 h ({ ah with eD:=pz,e5:=pB }:g.ct) q v EV1 dK eX 3 cQ.id 0 (ab.left q.x cQ.dm) cQ.ck G7) ?_
 refine I 0 ?_
 intro wb
 exact da ⟨pB,pz,wb,([]:List T)++(ep.drop (1:Int).toNat),(g.rg bJ (ab.left q.x cQ.dm)),r1.set eb (⟨cQ,1,Value.slice none 0 0,[],kF⟩:a7),eX++[(⟨3,q.x,h.al,cQ.id,0,ab.left q.x cQ.dm,cQ.ck⟩:aK)],eS++[ab.left q.x cQ.dm]⟩ ⟨by have au:=ml.next G7 h3 sO;simpa [g.Dg,a7.cL] using au,ua,t_,by simp [pb]⟩ (by simp only [lK,eh,hw,fq];omega)
 refine I 0 ?_
 intros
 exact K.H_ [] [0,1,2,3,4,5,6] a trivial a (by simp only [g.Yq];rw [ml.done (aH:=eT) (.inr (uO.1 E))];have e4:=ml.s1;have dx:=ml.Pw;exact ⟨_,_,_,_,_,rfl,rfl,ml.b1,E,pb,kR,rfl⟩)
def nk(h:g.b3)(ah:g.ct)(q:g.cu)(aJ:List Int)(bu:List a7):List aB:=[ai ah.s (g.kt h ah q) 125,bF ah.ae 1 (q.bz.map bH),row ah.gK 3 1 ((q.d.S.take h.ap.toNat).map bH),row ah.eD 3 1 (aJ.map bH),row ah.e5 66 7 (q.A.map T.cells),row ah.jU 68 9 (bu.map a7.cells),c1 (bu.map (a7.row 3)),row ah.fj 320 2 (q.j.map cI.cells),row ah.hp 175 4 ((ab.row q.y).map cR.cells)]
def Di(h:g.b3)(ah:g.ct)(q:g.cu)(bu:List a7)(id:Int)(S:bu.length≤1000)(ga:Value.oneCell' ah.jU=true)(c0 Cc:Int)(c:g.vQ (bu.map a7.cL) id=(c0,Cc)):M prog 156 #[ah.s,id] [ai ah.s (g.kt h ah q) 125,bF ah.jU 9 (bu.map a7.cells)] [] (fun m B=>m=.tuple #[c0,Cc]∧B=[]):=by
 have au:=at7 h ah q bu id S ga
 rw [c] at au;exact au
def atQ(h:g.b3)(ah:g.ct)(q:g.cu)(aJ:List Int)(bu:List a7)(id:Int)(ao:g.nW h q aJ bu):M prog 68 #[ah.s,id] [] (nk h ah q aJ bu) (fun m B=>∃ (dS dK:Value) (l_:g.ct) (dY:List Int) (jn:List a7),m=.tuple #[.agg #[dS,dK],.b (g.n5 h q id).2.2.2]∧g.wa h (g.n5 h q id).1 dY aJ jn∧B=nk h (g.ct.as ah l_) (g.n5 h q id).1 dY jn++[row dS 51 7 (((g.n5 h q id).2.1).map aK.cells),row dK 62 23 (((g.n5 h q id).2.2.1).map bk.cells)]):=by
 have:=ao.z
 have ⟨_,_,_,_,_⟩:=ao.L
 have kF:Value.oneCell' (Value.slice none 0 0)=true:=rfl
 have Av:=ao.yC
 refine M.aM func68 a ntmps68 a fun an=>?_
 refine aD 0 ?_
 refine w.one (ax.row 2 a) (fun kG=>?_)
 refine w.one (ax.row 3 a) (fun gN=>?_)
 refine w.one (ax.row 4 a) (fun kH=>?_)
 refine w.one (ax.row 5 a) (fun ga=>?_)
 refine w.one (ax.row 7 a) (fun sW=>?_)
 refine w.fg 51 7 (([]:List aK).map aK.cells) a<|w.fg 62 23 (([]:List bk).map bk.cells) a ?_
 refine I 2 ?_
 intro _ cS
 rcases g.Z_ ao.n id with ⟨ft,AI⟩|⟨eb,a8,ft,iy,n_,gj,n',AI⟩|⟨eb,a8,ft,iy,n_,gj,n',AI⟩
 refine P Di ?_
 refine aF ?_
 exact aO (by have dk:g.n5 h q id=(q,([]:List aK),([]:List bk),7):=g.ahf ft;rw [dk];exact ⟨_,_,ah,aJ,bu,rfl,⟨ao.n,ao.b1,ot⟩,rfl⟩)
 refine P Di ?_
 refine aF ?_
 exact aO (by have dk:g.n5 h q id=(q,([]:List aK),([]:List bk),12):=g.ahg ft n_ n';rw [dk];exact ⟨_,_,ah,aJ,bu,rfl,⟨ao.n,ao.b1,ot⟩,rfl⟩)
 refine P Di ?_
 refine P re ?_
 rintro _ _ ⟨Md,F7,j1,rfl,rfl⟩
 refine P (ku h ({ ah with fj:=j1 }:g.ct) ({ q with n:=(q.n.set eb g.cp.zero),j:=(bj.drop q.j a8.e.id) }:g.cu) cS Md F7 (([]:List aK)++[g.ek q.x h.al (a8.e,10)]) (([]:List bk)++[g.eB h.al q.d (a8.e,10)]) (bu.set eb a7.zero) aJ xE kH ga kG gN jW qJ ao.b1 xD) ?_
 rintro _ _ ⟨xI,aeD,ae7,afz,an6,rfl,akZ,amm,amQ,hjl18,hel19,rfl⟩
 refine I 1 ?_
 refine w.one (ax.row 2 a) (fun Ac=>?_)
 refine w.one (ax.row 7 a) (fun NQ=>?_)
 refine aF ?_
 exact aO (by have dk:g.n5 h q id=(g.fx h ({ q with n:=(q.n.set eb g.cp.zero),j:=(bj.drop q.j a8.e.id) }:g.cu) (([]:List aK)++[g.ek q.x h.al (a8.e,10)]) (([]:List bk)++[g.eB h.al q.d (a8.e,10)])):=g.ahe ft n_ n';rw [dk];exact ⟨_,_,({ ah with eD:=ae7,e5:=aeD,fj:=j1 }:g.ct),afz,an6,rfl,⟨akZ,amm,(by have fe:=amQ;have au:=ao.A;first|omega|(dsimp only at *;omega))⟩,kx⟩)
def atX(h:g.b3)(ah:g.ct)(q:g.cu)(aJ:List Int)(bu:List a7)(O bS cb bJ bR b4 bY b_ cy:Int)(ao:g.nW h q aJ bu):M prog 70 #[ah.s,.agg #[O,bS,cb,bJ,bR,b4,bY,b_,cy]] [] (nk h ah q aJ bu) (fun m B=>∃ (dS dK:Value) (l_:g.ct) (dY:List Int) (jn:List a7),m=.tuple #[.agg #[dS,dK],.b (g.rd h q O bS [cb,bJ,bR,b4,bY,b_,cy]).2.2.2]∧g.wa h (g.rd h q O bS [cb,bJ,bR,b4,bY,b_,cy]).1 dY aJ jn∧B=nk h (g.ct.as ah l_) (g.rd h q O bS [cb,bJ,bR,b4,bY,b_,cy]).1 dY jn++[row dS 51 7 (((g.rd h q O bS [cb,bJ,bR,b4,bY,b_,cy]).2.1).map aK.cells),row dK 62 23 (((g.rd h q O bS [cb,bJ,bR,b4,bY,b_,cy]).2.2.1).map bk.cells)]):=by
 have:=ao.z
 have ⟨_,_,_,_,_⟩:=ao.L
 have kF:Value.oneCell' (Value.slice none 0 0)=true:=rfl
 have Av:=ao.yC
 refine M.aM func70 a ntmps70 a fun an=>?_
 refine aD 0 ?_
 refine w.one (ax.row 2 a) (fun kG=>?_)
 refine w.one (ax.row 3 a) (fun gN=>?_)
 refine w.one (ax.row 4 a) (fun kH=>?_)
 refine w.one (ax.row 5 a) (fun ga=>?_)
 refine w.one (ax.row 7 a) (fun sW=>?_)
 refine w.fg 51 7 (([]:List aK).map aK.cells) a<|w.fg 62 23 (([]:List bk).map bk.cells) a ?_
 refine I 3 ?_
 intro _ _ dE
 refine K.hW 12 Tryz.bE aN ?_
 refine P auF ?_
 refine aD 0 ?_
 refine js (decide ((if g.qw O [O,bS,cb,bJ,bR,b4,bY,b_,cy]=true then (0:Int) else 1)≠0)) (fun aZ=>?_) (fun aZ=>?_)
 have iV:=dp aZ
 refine aF ?_
 exact adn
 have iW:=fa aZ
 refine aU ?_ ?_
 refine aF ?_
 intros
 exact adn
 refine I 0 ?_
 intros
 refine K.fD 15 Tryz.bE aN ?_
 refine aU (fun kM=>?_) (fun kM=>?_)
 refine P PR ?_
 refine aU ?_ ?_
 refine P (k0 h ah ({ q with bS:=bS,d:={ q.d with cb:=cb,bJ:=bJ,bR:=bR,b4:=b4,bY:=bY,b_:=b_,cy:=cy } }:g.cu) dE (Value.slice none 0 0) (Value.slice none 0 0) ([]:List aK) 10 bS 1 0 0) ?_
 refine I 1 ?_
 intro _ St
 refine w.one (ax.row 1 a) (fun vb=>?_)
 refine aF ?_
 exact aO (by have dk:(g.rd h q O bS [cb,bJ,bR,b4,bY,b_,cy])=(({ q with bS:=bS,d:={ q.d with cb:=cb,bJ:=bJ,bR:=bR,b4:=b4,bY:=bY,b_:=b_,cy:=cy } }:g.cu),([]:List aK)++[(⟨10,q.x,h.al,bS,1,0,0⟩:aK)],([]:List bk),0):=RG;rw [dk];exact ⟨_,_,ah,aJ,bu,rfl,⟨ao.n,⟨ao.b1.ez,ao.b1.eA⟩,ot⟩,rfl⟩)
 refine P k0 ?_
 refine I 1 ?_
 intro _ ad2
 refine w.one (ax.row 1 a) (fun Cw=>?_)
 exact adg
 refine P k0 ?_
 refine I 1 ?_
 intro Hk
 refine w.one (ax.row 1 a) (fun t'=>?_)
 exact adg
end Go.Proofs.YtohjlkjhpibkmaaGreatDoor
namespace Go.LK
open Go
def OZ{Y:Nat}{C:List aB}:∀ s:Nat,a' C (c1 ((List.replicate s a7.zero).map (a7.row Y)) :: C)
  | 0=>a'.new
  | s+1=>by
    intro an bL j W
    have G:cl an bL (row (.slice none 0 0) Y 1 [] :: c1 ((List.replicate s a7.zero).map (a7.row Y)) :: C) j:=(OZ (Y:=Y) s an bL j W).add (Frame.refl j _) ⟨GU j 0 Y 1,by simp⟩ zm
    refine (a'.lx (g.Cb (ar:=a7.row Y a7.zero) (fB:=(List.replicate (s+1) a7.zero).map (a7.row Y)) ?_)) an bL j G
    rw [List.replicate_succ,kO]
end Go.LK
namespace Go.LK.g
open Go Go.LK
section
variable {h:b3} {q:cu} {aJ:List Int} {bu:List a7} {b d:Nat} {Z:cp} {r:a7} {o:List cp} {e F:T} {f:List T}
def ao3(x:Int)(r:a7):(¬r.bg≠0∧lz x r.cL=false)∨(r.bg≠0∧r.e.ck≤x∧lz x r.cL=true)∨(r.bg≠0∧¬r.e.ck≤x∧lz x r.cL=false):=by
  unfold lz
  by_cases G:r.bg≠0
  · by_cases J:r.e.ck≤x
    · exact .inr (.inl ⟨G,J,by rw [c9 (show r.cL.bg≠0 from G),c9 (show r.cL.e.ck≤x from J)];rfl⟩)
    · exact .inr (.inr ⟨G,J,by rw [p4 (show ¬r.cL.e.ck≤x from J)];simp⟩)
  · exact .inl ⟨G,by rw [p4 (show ¬r.cL.bg≠0 from G)];rfl⟩
def atL(ad:bu.map a7.cL=o):(bu.filter fun k=>decide (k.bg≠0)).map a7.e=(o.filter fun Z=>decide (Z.bg≠0)).map cp.e:=by
  rw [←ad,List.filter_map,rl];rfl
def Qq{s:Nat}(c:s≤128):(List.replicate 128 (0:Int)).take s=List.replicate s 0:=by rw [List.take_replicate,DI c]
def aoO{l p i y r z L t:Int}(c:h7.e7 [l,p,i,y,r,z,L] t=0):1≤z:=by
  unfold h7.e7 at c
  split at c
  · rename_i G;exact (h7.PB.1 G).2.2.2.2.2.2.2.2.2.2.2.2.1
  · cases c
def av'{f:List Int}{s:Nat}(c:s≤f.length):f.take s=f.take (f.take s).length:=by rw [ib,DI c]
def asB{z:cG→gM}{f:List cG}(c:(mw z f).1≠0):(mw z f).2=[]:=by
  unfold mw at c ⊢
  split
  · rfl
  · rename_i G;rw [G] at c;exact absurd rfl c
def Yy{s:Nat}:(List.replicate s a7.zero).map a7.cL=List.replicate s cp.zero:=KX
def w1{s:Int}{a_ km:List aK}{aH pL:List bk}{j:List cI}(c:oZ h { q with x:=s } a_ aH d (bu.map a7.cL) j km pL)(R:d≤q.n.length):km.length≤a_.length+d∧pL.length≤aH.length+d∧j.length≤q.j.length∧bu.length=q.n.length:=by
  have G:=c.len R
  rw [fc] at G;exact G
def lk(cW:List cG)(aR dN x a1 bD:Int)(y:ab.ht):Int×List gM:=mw (fun i=>fX i aR dN x a1 (fI y bD i.O dN x)) cW
def x_(x al:Int)(e:T):aK:=⟨12,x,al,e.id,0,e.am,0⟩
def auk(ad:bu.map a7.cL=q.n):uC h q=({ q with A:=[],n:=List.replicate h.b1.toNat cp.zero,j:=[],y:=ab.nil,bz:=[],d:=iB h q.d },q.A.map (x_ q.x h.al)++(bu.filter fun k=>decide (k.bg≠0)).map (fun k=>x_ q.x h.al k.e)++[⟨11,q.x,h.al,(iB h q.d).aP,0,(iB h q.d).aa,0⟩],[],0):=by
  have G:(bu.filter fun k=>decide (k.bg≠0)).map (fun k=>x_ q.x h.al k.e)=((bu.filter fun k=>decide (k.bg≠0)).map a7.e).map (x_ q.x h.al):=by rw [rl];rfl
  rw [G,atL ad,←gR];rfl
end
end Go.LK.g
namespace Go.Proofs.YtohjlkjhpibkmaaGreatDoor
open Go Go.LK Go.Proofs.Tryz
set_option maxRecDepth 100000
set_option maxHeartbeats 4000000
def YH(br:Value)(f:List cI)(i:Int)(S:f.length≤100000)(c:bj.dX f i=none):M prog 163 #[br,i] [bF br 2 (f.map cI.cells)] [] (fun m B=>m=.tuple #[.b 0,.bool false]∧B=[]):=by
 exact ac3
def YI(br:Value)(f:List cI)(i k:Int)(S:f.length≤100000)(c:bj.dX f i=some k):M prog 163 #[br,i] [bF br 2 (f.map cI.cells)] [] (fun m B=>m=.tuple #[k,.bool true]∧B=[]):=by
 exact ac3
def YM(h:g.b3)(ah:g.ct)(q:g.cu)(bu:List a7)(id:Int)(S:bu.length≤1000)(ga:Value.oneCell' ah.jU=true)(b:Nat)(c:g.hd (bu.map a7.cL) id=some b):M prog 149 #[ah.s,id] [ai ah.s (g.kt h ah q) 125,bF ah.jU 9 (bu.map a7.cells)] [] (fun m B=>m=.b (b:Int)∧B=[]):=by
 have au:=Kb h ah q bu id S ga
 rw [c] at au;exact au
def J9(r:a7)(i code:Int)(S:r.cr.length≤1000)(bh:¬(r.bg=2∧i∈r.cr)):M prog 165 #[r,i,code] [bF r.m 1 (r.cr.map bH)] [] (fun m B=>m=.tuple #[r,.b 0]∧B=[]):=ato r.e.id r.e.am r.e.cg r.e.ck r.e.eN r.e.dm r.e.seq r.bg r.m r.cr i code S (by by_cases au:r.bg=2;exact .inr fun dx=>bh ⟨au,dx⟩;exact .inl au)
def J_(r:a7)(i code:Int)(S:r.cr.length≤1000)(ad:r.bg=2)(bh:i∈r.cr)(aS:code≠1):M prog 165 #[r,i,code] [bF r.m 1 (r.cr.map bH)] [] (fun m B=>m=.tuple #[.agg #[.b 0,.b 0,.b 0,.b 0,.b 0,.b 0,.b 0,.b 0,Value.slice none 0 0],.b 7]∧B=[]):=by
 rw [ad];exact atm r.e.id r.e.am r.e.cg r.e.ck r.e.eN r.e.dm r.e.seq r.m r.cr i code S bh aS
def J'(r:a7)(i code:Int)(S:r.cr.length≤1000)(ad:r.bg=2)(bh:i∈r.cr)(aS:code=1)(aC:bn.c8 r.cr i=[]):M prog 165 #[r,i,code] [bF r.m 1 (r.cr.map bH)] [] (fun m B=>m=.tuple #[.agg #[.b 0,.b 0,.b 0,.b 0,.b 0,.b 0,.b 0,.b 0,Value.slice none 0 0],.b 1]∧B=[]):=by
 rw [ad,aS];exact atn r.e.id r.e.am r.e.cg r.e.ck r.e.eN r.e.dm r.e.seq r.m r.cr i S bh aC
def Ka(r:a7)(i code:Int)(S:r.cr.length≤1000)(ad:r.bg=2)(bh:i∈r.cr)(aS:code=1)(ea:bn.c8 r.cr i≠[]):M prog 165 #[r,i,code] [bF r.m 1 (r.cr.map bH)] [] (fun m B=>∃ eJ,m=.tuple #[.agg #[r.e.id,r.e.am,r.e.cg,r.e.ck,r.e.eN,r.e.dm,r.e.seq,.b 2,eJ],.b 0]∧B=[row eJ 3 1 ((bn.c8 r.cr i).map bH)]):=by
 rw [ad,aS];exact atl r.e.id r.e.am r.e.cg r.e.ck r.e.eN r.e.dm r.e.seq r.m r.cr i S bh ea
def atY(h:g.b3)(ah:g.ct)(q:g.cu)(aJ:List Int)(bu:List a7)(id aE O code aa aP aR:Int)(ao:g.nW h q aJ bu):M prog 69 #[ah.s,.agg #[id,aE,O,code,aa,aP,aR]] [bF ah.ej 14 (h.k1.map cj.cells),bF ah.dA 4 (h.bb.map cG.cells)] (nk h ah q aJ bu) (fun m B=>∃ (dS dK:Value) (l_:g.ct) (dY:List Int) (jn:List a7),m=.tuple #[.agg #[dS,dK],.b (g.iX h q id aE O code aa aP aR).2.2.2]∧g.wa h (g.iX h q id aE O code aa aP aR).1 dY aJ jn∧B=nk h (g.ct.as ah l_) (g.iX h q id aE O code aa aP aR).1 dY jn++[row dS 51 7 (((g.iX h q id aE O code aa aP aR).2.1).map aK.cells),row dK 62 23 (((g.iX h q id aE O code aa aP aR).2.2.1).map bk.cells)]):=by
 have:=ao.z
 have ⟨_,_,_,_,_⟩:=ao.L
 have:=bj.tl (f:=q.j) (i:=id)
 have kF:Value.oneCell' (Value.slice none 0 0)=true:=rfl
 have Av:=ao.yC
 refine M.aM func69 a ntmps69 a fun an=>?_
 refine aD 0 ?_
 refine w.one (ax.row 2 a) (fun kG=>?_)
 refine w.one (ax.row 3 a) (fun gN=>?_)
 refine w.one (ax.row 4 a) (fun kH=>?_)
 refine w.one (ax.row 5 a) (fun ga=>?_)
 refine w.one (ax.row 7 a) (fun sW=>?_)
 refine w.fg 51 7 (([]:List aK).map aK.cells) a<|w.fg 62 23 (([]:List bk).map bk.cells) a ?_
 refine I 3 ?_
 intro _ _ dE
 rcases g.auf h id aE O code aa aP aR with ⟨j8,yl⟩|⟨j8,rZ,yl⟩|⟨j8,rZ,sO,yl⟩|⟨j8,rZ,sO,q2⟩
 exact R5
 exact R5
 exact R5
 refine K.hW 23 Tryz.bE aN ?_
 refine P Y5 ?_
 refine aD 18 ?_
 refine K.ef (df [(0,14),(14,0),(15,5)]) [2,5] Tryz.bE aN a ?_
 refine P atb ?_
 intro fd
 refine aD 1 ?_
 refine w.one (ax.row 0 a) (fun o_=>?_)
 refine w.cq (aq.gy 6 sizeOf71 o_ a a a a) ?_
 rintro _ _ rfl
 refine I 0 ?_
 refine K.cond a (fun gi=>?_) (fun gi=>?_)
 refine P (k0 h ({ ah with hp:=fd }:g.ct) q dE (Value.slice none 0 0) (Value.slice none 0 0) ([]:List aK) 8 aP 0 aE aa) ?_
 refine I 0 ?_
 intro D6
 rcases g.WT (i:=id) ao.n ao.Z7 with ag|⟨mL,ag,eb,a8,ft,iy,Af,n_,gj,sT⟩
 refine K.hW 12 Tryz.bE aN ?_
 refine P YH ?_
 refine P (k0 h ({ ah with hp:=fd }:g.ct) q dE D6 (Value.slice none 0 0) (([]:List aK)++[(⟨8,q.x,h.al,aP,0,aE,aa⟩:aK)]) 7 id code aE 0) ?_
 refine I 1 ?_
 intro xI
 refine w.one (ax.row 1 a) (fun t_=>?_)
 refine aF ?_
 exact aO (by have dk:g.iX h q id aE O code aa aP aR=(({ q with y:=(ab.fA q.y aE aa aP q.x).1 }:g.cu),(([]:List aK)++[(⟨8,q.x,h.al,aP,0,aE,aa⟩:aK)])++[(⟨7,q.x,h.al,id,code,aE,0⟩:aK)],([]:List bk),0):=(by have nf:g.n9 h q id aE code aa aP=(([]:List aK)++[(⟨8,q.x,h.al,aP,0,aE,aa⟩:aK)])++[(⟨7,q.x,h.al,id,code,aE,0⟩:aK)]:=zo;exact (g.Yw q2 ag).trans (by rw [nf]));rw [dk];exact ⟨_,_,({ ah with hp:=fd }:g.ct),aJ,bu,rfl,⟨ao.n,ao.b1,ot⟩,rfl⟩)
 have q5:a8.cr.length≤1000:=iZ (ao.c2 a8.cL (ao.n ▸ bx.2 ⟨a8,eF iy,rfl⟩)) bd
 refine K.hW 12 Tryz.bE aN ?_
 refine P YI ?_
 refine P (k0 h ({ ah with hp:=fd }:g.ct) q dE D6 (Value.slice none 0 0) (([]:List aK)++[(⟨8,q.x,h.al,aP,0,aE,aa⟩:aK)]) 7 id code aE 1) ?_
 refine I 0 ?_
 intro wb
 refine K.ef (df [(0,7),(7,0),(8,2),(10,0)]) [4,6] Tryz.bE aN a<|aL.Z 4 a<|aL.A a (aV.br 1 isAgg123 a a a) a<|aL.Z 1 a<|aL.A a (aV.br 0 ds a a a) a ?_
 refine aL.f a (aq.fl call164 (Yp ah.fj q.j id aa1) [] a a (.eo 13 jz a a .nil)) a ?_
 rintro y6 _ ⟨_,rfl,rfl⟩
 refine aD 1 ?_
 refine aL.one a (fun _ c=>by cases c<;>rfl) (ax.row 0 a) (fun Cw=>?_)
 refine aL.cq a (aq.gy 7 xZ Cw a a a a) ?_
 rintro _ _ rfl
 refine P (YM h ({ ah with fj:=y6,hp:=fd }:g.ct) q bu mL) ?_
 refine I 0 ?_
 rcases g.Wk a8.bg a8.cr id code with ⟨bh,fL,bf⟩|⟨oF,bh,wO,fL⟩|⟨oF,bh,wO,akH,fL⟩|⟨oF,bh,wO,ea,fL,bf⟩
 refine K.kD Tryz.bE ?_
 refine ar.gV 11 15 a ?_ ?_
 refine ar.fH (df [(0,11),(15,0),(11,0),(12,3),(16,0),(17,1)]) [5,7,12] aN a ?_
 refine P J9 ?_
 intro Im
 refine aD 3 ?_
 refine K.fD 7 Tryz.bE aN ?_
 refine aD 3 ?_
 refine w.cq (aq.jS 13 (k:=eb) (off:=0) (ae:=a8) (r:=a8) a8 a a a a E iy a j3 a a Lg a a) ?_
 rintro _ _ rfl
 refine I 1 ?_
 refine w.one (ax.row 3 a) (fun Ac=>?_)
 exact ab4
 refine ar.fH (df [(0,11),(11,0),(12,3),(15,0),(16,0),(17,1)]) [5,7,12] aN a ?_
 refine P J9 ?_
 refine aD 5 ?_
 intro ajo
 refine K.fD 7 Tryz.bE aN ?_
 refine aD 3 ?_
 refine w.cq (aq.jS 13 (k:=eb) (off:=0) (ae:=a8) (r:=a8) a8 a a a a E iy a j3 a a Lg a a) ?_
 rintro _ _ rfl
 refine I 1 ?_
 refine w.one (ax.row 3 a) (fun azJ=>?_)
 exact ab4
 refine K.kD Tryz.bE ?_
 refine ar.gV 11 15 a ?_ ?_
 refine ar.fH (df [(0,11),(15,0),(11,0),(12,3),(16,0),(17,1)]) [5,7,12] aN a ?_
 refine P J_ ?_
 intro ajp
 refine P (re h ({ ah with fj:=y6,hp:=fd }:g.ct) ({ q with j:=(bj.c8 q.j id),y:=(ab.fA q.y aE aa aP q.x).1 }:g.cu) dE wb (Value.slice none 0 0) ((([]:List aK)++[(⟨8,q.x,h.al,aP,0,aE,aa⟩:aK)])++[(⟨7,q.x,h.al,id,code,aE,1⟩:aK)]) ([]:List bk) bu eb a8 7) ?_
 rintro _ _ ⟨aeb,F29,S6,rfl,rfl⟩
 refine P (ku h ({ ah with fj:=S6,hp:=fd }:g.ct) ({ q with n:=(q.n.set eb g.cp.zero),j:=(bj.drop (bj.c8 q.j id) a8.e.id),y:=(ab.fA q.y aE aa aP q.x).1 }:g.cu) dE aeb F29 (((([]:List aK)++[(⟨8,q.x,h.al,aP,0,aE,aa⟩:aK)])++[(⟨7,q.x,h.al,id,code,aE,1⟩:aK)])++[g.ek q.x h.al (a8.e,7)]) (([]:List bk)++[g.eB h.al q.d (a8.e,7)]) (bu.set eb a7.zero) aJ xE kH ga kG gN jW qJ ao.b1 xD) ?_
 rintro _ _ ⟨aed,aeV,afm,afP,aoj,rfl,alb,amy,am1,hjl40,hel41,rfl⟩
 refine I 1 ?_
 refine w.one (ax.row 2 a) (fun NT=>?_)
 refine w.one (ax.row 7 a) (fun aj3=>?_)
 refine aF ?_
 exact aO (by have dk:g.iX h q id aE O code aa aP aR=(g.fx h ({ q with n:=(q.n.set eb g.cp.zero),j:=(bj.drop (bj.c8 q.j id) a8.e.id),y:=(ab.fA q.y aE aa aP q.x).1 }:g.cu) (((([]:List aK)++[(⟨8,q.x,h.al,aP,0,aE,aa⟩:aK)])++[(⟨7,q.x,h.al,id,code,aE,1⟩:aK)])++[g.ek q.x h.al (a8.e,7)]) (([]:List bk)++[g.eB h.al q.d (a8.e,7)])):=abv;rw [dk];exact ⟨_,_,({ ah with eD:=afm,e5:=aeV,fj:=S6,hp:=fd }:g.ct),afP,aoj,rfl,⟨alb,amy,(by have fe:=am1;have au:=ao.A;first|omega|(dsimp only at *;omega))⟩,kx⟩)
 refine ar.fH (df [(0,11),(11,0),(12,3),(15,0),(16,0),(17,1)]) [5,7,12] aN a ?_
 refine P J_ ?_
 refine P (re h ({ ah with fj:=y6,hp:=fd }:g.ct) ({ q with j:=(bj.c8 q.j id),y:=(ab.fA q.y aE aa aP q.x).1 }:g.cu) dE wb (Value.slice none 0 0) ((([]:List aK)++[(⟨8,q.x,h.al,aP,0,aE,aa⟩:aK)])++[(⟨7,q.x,h.al,id,code,aE,1⟩:aK)]) ([]:List bk) bu eb a8 7) ?_
 intro ayG
 rintro _ _ ⟨Ma,F48,S9,rfl,rfl⟩
 refine P (ku h ({ ah with fj:=S9,hp:=fd }:g.ct) ({ q with n:=(q.n.set eb g.cp.zero),j:=(bj.drop (bj.c8 q.j id) a8.e.id),y:=(ab.fA q.y aE aa aP q.x).1 }:g.cu) dE Ma F48 (((([]:List aK)++[(⟨8,q.x,h.al,aP,0,aE,aa⟩:aK)])++[(⟨7,q.x,h.al,id,code,aE,1⟩:aK)])++[g.ek q.x h.al (a8.e,7)]) (([]:List bk)++[g.eB h.al q.d (a8.e,7)]) (bu.set eb a7.zero) aJ xE kH ga kG gN jW qJ ao.b1 xD) ?_
 rintro _ _ ⟨axI,aeZ,afq,afS,aom,rfl,alf,amC,am5,hjl59,hel60,rfl⟩
 refine I 1 ?_
 refine w.one (ax.row 2 a) (fun Vx=>?_)
 refine w.one (ax.row 7 a) (fun az4=>?_)
 refine aF ?_
 exact aO (by have dk:g.iX h q id aE O code aa aP aR=(g.fx h ({ q with n:=(q.n.set eb g.cp.zero),j:=(bj.drop (bj.c8 q.j id) a8.e.id),y:=(ab.fA q.y aE aa aP q.x).1 }:g.cu) (((([]:List aK)++[(⟨8,q.x,h.al,aP,0,aE,aa⟩:aK)])++[(⟨7,q.x,h.al,id,code,aE,1⟩:aK)])++[g.ek q.x h.al (a8.e,7)]) (([]:List bk)++[g.eB h.al q.d (a8.e,7)])):=abv;rw [dk];exact ⟨_,_,({ ah with eD:=afq,e5:=aeZ,fj:=S9,hp:=fd }:g.ct),afS,aom,rfl,⟨alf,amC,(by have fe:=am5;have au:=ao.A;first|omega|(dsimp only at *;omega))⟩,kx⟩)
 refine K.kD Tryz.bE ?_
 refine ar.gV 11 15 a ?_ ?_
 refine ar.fH (df [(0,11),(15,0),(11,0),(12,3),(16,0),(17,1)]) [5,7,12] aN a ?_
 refine P J' ?_
 intro ayJ
 refine P (re h ({ ah with fj:=y6,hp:=fd }:g.ct) ({ q with j:=(bj.c8 q.j id),y:=(ab.fA q.y aE aa aP q.x).1 }:g.cu) dE wb (Value.slice none 0 0) ((([]:List aK)++[(⟨8,q.x,h.al,aP,0,aE,aa⟩:aK)])++[(⟨7,q.x,h.al,id,code,aE,1⟩:aK)]) ([]:List bk) bu eb a8 1) ?_
 rintro _ _ ⟨aeh,F67,S',rfl,rfl⟩
 refine P (ku h ({ ah with fj:=S',hp:=fd }:g.ct) ({ q with n:=(q.n.set eb g.cp.zero),j:=(bj.drop (bj.c8 q.j id) a8.e.id),y:=(ab.fA q.y aE aa aP q.x).1 }:g.cu) dE aeh F67 (((([]:List aK)++[(⟨8,q.x,h.al,aP,0,aE,aa⟩:aK)])++[(⟨7,q.x,h.al,id,code,aE,1⟩:aK)])++[g.ek q.x h.al (a8.e,1)]) (([]:List bk)++[g.eB h.al q.d (a8.e,1)]) (bu.set eb a7.zero) aJ xE kH ga kG gN jW qJ ao.b1 xD) ?_
 rintro _ _ ⟨SB,ae1,afs,afU,aoo,rfl,alh,amE,am7,hjl78,hel79,rfl⟩
 refine I 1 ?_
 refine w.one (ax.row 2 a) (fun az9=>?_)
 refine w.one (ax.row 7 a) (fun NW=>?_)
 refine aF ?_
 exact aO (by have dk:g.iX h q id aE O code aa aP aR=(g.fx h ({ q with n:=(q.n.set eb g.cp.zero),j:=(bj.drop (bj.c8 q.j id) a8.e.id),y:=(ab.fA q.y aE aa aP q.x).1 }:g.cu) (((([]:List aK)++[(⟨8,q.x,h.al,aP,0,aE,aa⟩:aK)])++[(⟨7,q.x,h.al,id,code,aE,1⟩:aK)])++[g.ek q.x h.al (a8.e,1)]) (([]:List bk)++[g.eB h.al q.d (a8.e,1)])):=abw;rw [dk];exact ⟨_,_,({ ah with eD:=afs,e5:=ae1,fj:=S',hp:=fd }:g.ct),afU,aoo,rfl,⟨alh,amE,(by have fe:=am7;have au:=ao.A;first|omega|(dsimp only at *;omega))⟩,kx⟩)
 refine ar.fH (df [(0,11),(11,0),(12,3),(15,0),(16,0),(17,1)]) [5,7,12] aN a ?_
 refine P J' ?_
 refine P (re h ({ ah with fj:=y6,hp:=fd }:g.ct) ({ q with j:=(bj.c8 q.j id),y:=(ab.fA q.y aE aa aP q.x).1 }:g.cu) dE wb (Value.slice none 0 0) ((([]:List aK)++[(⟨8,q.x,h.al,aP,0,aE,aa⟩:aK)])++[(⟨7,q.x,h.al,id,code,aE,1⟩:aK)]) ([]:List bk) bu eb a8 1) ?_
 intro ayM
 rintro _ _ ⟨aei,F86,Tb,rfl,rfl⟩
 refine P (ku h ({ ah with fj:=Tb,hp:=fd }:g.ct) ({ q with n:=(q.n.set eb g.cp.zero),j:=(bj.drop (bj.c8 q.j id) a8.e.id),y:=(ab.fA q.y aE aa aP q.x).1 }:g.cu) dE aei F86 (((([]:List aK)++[(⟨8,q.x,h.al,aP,0,aE,aa⟩:aK)])++[(⟨7,q.x,h.al,id,code,aE,1⟩:aK)])++[g.ek q.x h.al (a8.e,1)]) (([]:List bk)++[g.eB h.al q.d (a8.e,1)]) (bu.set eb a7.zero) aJ xE kH ga kG gN jW qJ ao.b1 xD) ?_
 rintro _ _ ⟨axQ,ae4,afv,afX,aor,rfl,alk,amH,am_,hjl97,hel98,rfl⟩
 refine I 1 ?_
 refine w.one (ax.row 2 a) (fun Vm=>?_)
 refine w.one (ax.row 7 a) (fun azk=>?_)
 refine aF ?_
 exact aO (by have dk:g.iX h q id aE O code aa aP aR=(g.fx h ({ q with n:=(q.n.set eb g.cp.zero),j:=(bj.drop (bj.c8 q.j id) a8.e.id),y:=(ab.fA q.y aE aa aP q.x).1 }:g.cu) (((([]:List aK)++[(⟨8,q.x,h.al,aP,0,aE,aa⟩:aK)])++[(⟨7,q.x,h.al,id,code,aE,1⟩:aK)])++[g.ek q.x h.al (a8.e,1)]) (([]:List bk)++[g.eB h.al q.d (a8.e,1)])):=abw;rw [dk];exact ⟨_,_,({ ah with eD:=afv,e5:=ae4,fj:=Tb,hp:=fd }:g.ct),afX,aor,rfl,⟨alk,amH,(by have fe:=am_;have au:=ao.A;first|omega|(dsimp only at *;omega))⟩,kx⟩)
 refine K.kD Tryz.bE ?_
 refine ar.gV 11 15 a ?_ ?_
 refine ar.fH (df [(0,11),(15,0),(11,0),(12,3),(16,0),(17,1)]) [5,7,12] aN a ?_
 refine P Ka ?_
 intro ayj
 intro BX
 refine aD 1 ?_
 refine aL.one a (fun _ c=>by cases c<;>rfl) (ax.row 0 a) (fun IA=>?_)
 refine aD 2 ?_
 refine K.fD 7 Tryz.bE aN ?_
 refine aD 3 ?_
 refine w.cq (aq.jS 14 (k:=eb) (off:=0) (ae:=[a8.e.id,a8.e.am,a8.e.cg,a8.e.ck,a8.e.eN,a8.e.dm,a8.e.seq,.b 2,BX]) (r:=a8) (⟨a8.e,2,BX,(bn.c8 a8.cr id),IA⟩:a7) a a a a E iy a j3 a a (by simp only [k8,ri,jV,IA]<;>rfl) a a) ?_
 rintro _ _ rfl
 refine I 1 ?_
 refine w.one (ax.row 4 a) (fun ajV=>?_)
 refine w.cq (aq.dC 6 o2 a a a a a (by simp only [k8,ri,jV,ajV,kF]<;>rfl) a) ?_
 rintro _ _ rfl
 refine w.dw 2 a<|K.hv (a'.trans (a'.bz [0,15,1,2,3,4,5,6,7,8,9,10,11,12,13,14,16] a) (a'.lx (yE iy (⟨a8.e,2,BX,(bn.c8 a8.cr id),IA⟩:a7)))) ?_
 refine aF ?_
 exact aO (by have dk:g.iX h q id aE O code aa aP aR=(({ q with n:=(q.n.set eb ⟨a8.cL.e,a8.cL.bg,g.oa a8.cL.bg a8.cL.cr id⟩),j:=(bj.c8 q.j id),y:=(ab.fA q.y aE aa aP q.x).1 }:g.cu),(([]:List aK)++[(⟨8,q.x,h.al,aP,0,aE,aa⟩:aK)])++[(⟨7,q.x,h.al,id,code,aE,1⟩:aK)],([]:List bk),0):=Rx;rw [dk];exact ⟨_,_,({ ah with fj:=y6,hp:=fd }:g.ct),aJ,(bu.set eb (⟨a8.e,2,BX,(bn.c8 a8.cr id),IA⟩:a7)),rfl,⟨LI,ao.b1,ot⟩,rfl⟩)
 refine ar.fH (df [(0,11),(11,0),(12,3),(15,0),(16,0),(17,1)]) [5,7,12] aN a ?_
 refine P Ka ?_
 intro Hy
 refine aD 3 ?_
 intro ayk
 refine aL.one a (fun _ c=>by cases c<;>rfl) (ax.row 1 a) (fun IB=>?_)
 refine aD 2 ?_
 refine K.fD 7 Tryz.bE aN ?_
 refine aD 3 ?_
 refine w.cq (aq.jS 14 (k:=eb) (off:=0) (ae:=[a8.e.id,a8.e.am,a8.e.cg,a8.e.ck,a8.e.eN,a8.e.dm,a8.e.seq,.b 2,Hy]) (r:=a8) (⟨a8.e,2,Hy,(bn.c8 a8.cr id),IB⟩:a7) a a a a E iy a j3 a a (by simp only [k8,ri,jV,IB]<;>rfl) a a) ?_
 rintro _ _ rfl
 refine I 1 ?_
 refine w.one (ax.row 4 a) (fun Vo=>?_)
 refine w.cq (aq.dC 6 o2 a a a a a (by simp only [k8,ri,jV,Vo,kF]<;>rfl) a) ?_
 rintro _ _ rfl
 refine w.dw 2 a<|K.hv (a'.trans (a'.bz [1,15,0,2,3,4,5,6,7,8,9,10,11,12,13,14,16] a) (a'.lx (yE iy (⟨a8.e,2,Hy,(bn.c8 a8.cr id),IB⟩:a7)))) ?_
 refine aF ?_
 exact aO (by have dk:g.iX h q id aE O code aa aP aR=(({ q with n:=(q.n.set eb ⟨a8.cL.e,a8.cL.bg,g.oa a8.cL.bg a8.cL.cr id⟩),j:=(bj.c8 q.j id),y:=(ab.fA q.y aE aa aP q.x).1 }:g.cu),(([]:List aK)++[(⟨8,q.x,h.al,aP,0,aE,aa⟩:aK)])++[(⟨7,q.x,h.al,id,code,aE,1⟩:aK)],([]:List bk),0):=Rx;rw [dk];exact ⟨_,_,({ ah with fj:=y6,hp:=fd }:g.ct),aJ,(bu.set eb (⟨a8.e,2,Hy,(bn.c8 a8.cr id),IB⟩:a7)),rfl,⟨LI,ao.b1,ot⟩,rfl⟩)
 refine I 0 ?_
 rcases g.WT (i:=id) ao.n ao.Z7 with ag|⟨mL,ag,eb,a8,ft,iy,Af,n_,gj,sT⟩
 refine K.hW 12 Tryz.bE aN ?_
 refine P YH ?_
 refine P (k0 h ({ ah with hp:=fd }:g.ct) q dE (Value.slice none 0 0) (Value.slice none 0 0) ([]:List aK) 7 id code aE 0) ?_
 refine I 1 ?_
 intro axs
 refine w.one (ax.row 1 a) (fun azm=>?_)
 refine aF ?_
 exact aO (by have dk:g.iX h q id aE O code aa aP aR=(({ q with y:=(ab.fA q.y aE aa aP q.x).1 }:g.cu),([]:List aK)++[(⟨7,q.x,h.al,id,code,aE,0⟩:aK)],([]:List bk),0):=(by have nf:g.n9 h q id aE code aa aP=([]:List aK)++[(⟨7,q.x,h.al,id,code,aE,0⟩:aK)]:=zo;exact (g.Yw q2 ag).trans (by rw [nf]));rw [dk];exact ⟨_,_,({ ah with hp:=fd }:g.ct),aJ,bu,rfl,⟨ao.n,ao.b1,ot⟩,rfl⟩)
 have q5:a8.cr.length≤1000:=iZ (ao.c2 a8.cL (ao.n ▸ bx.2 ⟨a8,eF iy,rfl⟩)) bd
 refine K.hW 12 Tryz.bE aN ?_
 refine P YI ?_
 refine P (k0 h ({ ah with hp:=fd }:g.ct) q dE (Value.slice none 0 0) (Value.slice none 0 0) ([]:List aK) 7 id code aE 1) ?_
 refine I 0 ?_
 intro Hj
 refine K.ef (df [(0,7),(7,0),(8,2),(10,0)]) [4,6] Tryz.bE aN a<|aL.Z 4 a<|aL.A a (aV.br 1 isAgg123 a a a) a<|aL.Z 1 a<|aL.A a (aV.br 0 ds a a a) a ?_
 refine aL.f a (aq.fl call164 (Yp ah.fj q.j id aa1) [] a a (.eo 13 jz a a .nil)) a ?_
 rintro y5 _ ⟨_,rfl,rfl⟩
 refine aD 1 ?_
 refine aL.one a (fun _ c=>by cases c<;>rfl) (ax.row 0 a) (fun NN=>?_)
 refine aL.cq a (aq.gy 7 xZ NN a a a a) ?_
 rintro _ _ rfl
 refine P (YM h ({ ah with fj:=y5,hp:=fd }:g.ct) q bu mL) ?_
 refine I 0 ?_
 rcases g.Wk a8.bg a8.cr id code with ⟨bh,fL,bf⟩|⟨oF,bh,wO,fL⟩|⟨oF,bh,wO,akH,fL⟩|⟨oF,bh,wO,ea,fL,bf⟩
 refine K.kD Tryz.bE ?_
 refine ar.gV 11 15 a ?_ ?_
 refine ar.fH (df [(0,11),(15,0),(11,0),(12,3),(16,0),(17,1)]) [5,7,12] aN a ?_
 refine P J9 ?_
 intro ayl
 refine aD 3 ?_
 refine K.fD 7 Tryz.bE aN ?_
 refine aD 3 ?_
 refine w.cq (aq.jS 13 (k:=eb) (off:=0) (ae:=a8) (r:=a8) a8 a a a a E iy a j3 a a Lg a a) ?_
 rintro _ _ rfl
 refine I 1 ?_
 refine w.one (ax.row 3 a) (fun azp=>?_)
 exact ac2
 refine ar.fH (df [(0,11),(11,0),(12,3),(15,0),(16,0),(17,1)]) [5,7,12] aN a ?_
 refine P J9 ?_
 refine aD 5 ?_
 intro ayo
 refine K.fD 7 Tryz.bE aN ?_
 refine aD 3 ?_
 refine w.cq (aq.jS 13 (k:=eb) (off:=0) (ae:=a8) (r:=a8) a8 a a a a E iy a j3 a a Lg a a) ?_
 rintro _ _ rfl
 refine I 1 ?_
 refine w.one (ax.row 3 a) (fun ajW=>?_)
 exact ac2
 refine K.kD Tryz.bE ?_
 refine ar.gV 11 15 a ?_ ?_
 refine ar.fH (df [(0,11),(15,0),(11,0),(12,3),(16,0),(17,1)]) [5,7,12] aN a ?_
 refine P J_ ?_
 intro ayq
 refine P (re h ({ ah with fj:=y5,hp:=fd }:g.ct) ({ q with j:=(bj.c8 q.j id),y:=(ab.fA q.y aE aa aP q.x).1 }:g.cu) dE Hj (Value.slice none 0 0) (([]:List aK)++[(⟨7,q.x,h.al,id,code,aE,1⟩:aK)]) ([]:List bk) bu eb a8 7) ?_
 rintro _ _ ⟨ad1,F133,SX,rfl,rfl⟩
 refine P (ku h ({ ah with fj:=SX,hp:=fd }:g.ct) ({ q with n:=(q.n.set eb g.cp.zero),j:=(bj.drop (bj.c8 q.j id) a8.e.id),y:=(ab.fA q.y aE aa aP q.x).1 }:g.cu) dE ad1 F133 ((([]:List aK)++[(⟨7,q.x,h.al,id,code,aE,1⟩:aK)])++[g.ek q.x h.al (a8.e,7)]) (([]:List bk)++[g.eB h.al q.d (a8.e,7)]) (bu.set eb a7.zero) aJ xE kH ga kG gN jW qJ ao.b1 xD) ?_
 rintro _ _ ⟨axv,aeH,ae_,afB,an7,rfl,akY,amj,amM,hjl144,hel145,rfl⟩
 refine I 1 ?_
 refine w.one (ax.row 2 a) (fun azs=>?_)
 refine w.one (ax.row 7 a) (fun Vr=>?_)
 refine aF ?_
 exact aO (by have dk:g.iX h q id aE O code aa aP aR=(g.fx h ({ q with n:=(q.n.set eb g.cp.zero),j:=(bj.drop (bj.c8 q.j id) a8.e.id),y:=(ab.fA q.y aE aa aP q.x).1 }:g.cu) ((([]:List aK)++[(⟨7,q.x,h.al,id,code,aE,1⟩:aK)])++[g.ek q.x h.al (a8.e,7)]) (([]:List bk)++[g.eB h.al q.d (a8.e,7)])):=aby;rw [dk];exact ⟨_,_,({ ah with eD:=ae_,e5:=aeH,fj:=SX,hp:=fd }:g.ct),afB,an7,rfl,⟨akY,amj,(by have fe:=amM;have au:=ao.A;first|omega|(dsimp only at *;omega))⟩,kx⟩)
 refine ar.fH (df [(0,11),(11,0),(12,3),(15,0),(16,0),(17,1)]) [5,7,12] aN a ?_
 refine P J_ ?_
 refine P (re h ({ ah with fj:=y5,hp:=fd }:g.ct) ({ q with j:=(bj.c8 q.j id),y:=(ab.fA q.y aE aa aP q.x).1 }:g.cu) dE Hj (Value.slice none 0 0) (([]:List aK)++[(⟨7,q.x,h.al,id,code,aE,1⟩:aK)]) ([]:List bk) bu eb a8 7) ?_
 intro ayu
 rintro _ _ ⟨ad5,F152,SY,rfl,rfl⟩
 refine P (ku h ({ ah with fj:=SY,hp:=fd }:g.ct) ({ q with n:=(q.n.set eb g.cp.zero),j:=(bj.drop (bj.c8 q.j id) a8.e.id),y:=(ab.fA q.y aE aa aP q.x).1 }:g.cu) dE ad5 F152 ((([]:List aK)++[(⟨7,q.x,h.al,id,code,aE,1⟩:aK)])++[g.ek q.x h.al (a8.e,7)]) (([]:List bk)++[g.eB h.al q.d (a8.e,7)]) (bu.set eb a7.zero) aJ xE kH ga kG gN jW qJ ao.b1 xD) ?_
 rintro _ _ ⟨axy,aeK,afb,afE,an_,rfl,ak2,amn,amP,hjl163,hel164,rfl⟩
 refine I 1 ?_
 refine w.one (ax.row 2 a) (fun azx=>?_)
 refine w.one (ax.row 7 a) (fun azy=>?_)
 refine aF ?_
 exact aO (by have dk:g.iX h q id aE O code aa aP aR=(g.fx h ({ q with n:=(q.n.set eb g.cp.zero),j:=(bj.drop (bj.c8 q.j id) a8.e.id),y:=(ab.fA q.y aE aa aP q.x).1 }:g.cu) ((([]:List aK)++[(⟨7,q.x,h.al,id,code,aE,1⟩:aK)])++[g.ek q.x h.al (a8.e,7)]) (([]:List bk)++[g.eB h.al q.d (a8.e,7)])):=aby;rw [dk];exact ⟨_,_,({ ah with eD:=afb,e5:=aeK,fj:=SY,hp:=fd }:g.ct),afE,an_,rfl,⟨ak2,amn,(by have fe:=amP;have au:=ao.A;first|omega|(dsimp only at *;omega))⟩,kx⟩)
 refine K.kD Tryz.bE ?_
 refine ar.gV 11 15 a ?_ ?_
 refine ar.fH (df [(0,11),(15,0),(11,0),(12,3),(16,0),(17,1)]) [5,7,12] aN a ?_
 refine P J' ?_
 intro ayw
 refine P (re h ({ ah with fj:=y5,hp:=fd }:g.ct) ({ q with j:=(bj.c8 q.j id),y:=(ab.fA q.y aE aa aP q.x).1 }:g.cu) dE Hj (Value.slice none 0 0) (([]:List aK)++[(⟨7,q.x,h.al,id,code,aE,1⟩:aK)]) ([]:List bk) bu eb a8 1) ?_
 rintro _ _ ⟨ad8,F171,SZ,rfl,rfl⟩
 refine P (ku h ({ ah with fj:=SZ,hp:=fd }:g.ct) ({ q with n:=(q.n.set eb g.cp.zero),j:=(bj.drop (bj.c8 q.j id) a8.e.id),y:=(ab.fA q.y aE aa aP q.x).1 }:g.cu) dE ad8 F171 ((([]:List aK)++[(⟨7,q.x,h.al,id,code,aE,1⟩:aK)])++[g.ek q.x h.al (a8.e,1)]) (([]:List bk)++[g.eB h.al q.d (a8.e,1)]) (bu.set eb a7.zero) aJ xE kH ga kG gN jW qJ ao.b1 xD) ?_
 rintro _ _ ⟨axA,aeM,afd,afG,aoa,rfl,ak4,amp,amS,hjl182,hel183,rfl⟩
 refine I 1 ?_
 refine w.one (ax.row 2 a) (fun NP=>?_)
 refine w.one (ax.row 7 a) (fun azB=>?_)
 refine aF ?_
 exact aO (by have dk:g.iX h q id aE O code aa aP aR=(g.fx h ({ q with n:=(q.n.set eb g.cp.zero),j:=(bj.drop (bj.c8 q.j id) a8.e.id),y:=(ab.fA q.y aE aa aP q.x).1 }:g.cu) ((([]:List aK)++[(⟨7,q.x,h.al,id,code,aE,1⟩:aK)])++[g.ek q.x h.al (a8.e,1)]) (([]:List bk)++[g.eB h.al q.d (a8.e,1)])):=abz;rw [dk];exact ⟨_,_,({ ah with eD:=afd,e5:=aeM,fj:=SZ,hp:=fd }:g.ct),afG,aoa,rfl,⟨ak4,amp,(by have fe:=amS;have au:=ao.A;first|omega|(dsimp only at *;omega))⟩,kx⟩)
 refine ar.fH (df [(0,11),(11,0),(12,3),(15,0),(16,0),(17,1)]) [5,7,12] aN a ?_
 refine P J' ?_
 refine P (re h ({ ah with fj:=y5,hp:=fd }:g.ct) ({ q with j:=(bj.c8 q.j id),y:=(ab.fA q.y aE aa aP q.x).1 }:g.cu) dE Hj (Value.slice none 0 0) (([]:List aK)++[(⟨7,q.x,h.al,id,code,aE,1⟩:aK)]) ([]:List bk) bu eb a8 1) ?_
 intro ayz
 rintro _ _ ⟨ad9,F190,S0,rfl,rfl⟩
 refine P (ku h ({ ah with fj:=S0,hp:=fd }:g.ct) ({ q with n:=(q.n.set eb g.cp.zero),j:=(bj.drop (bj.c8 q.j id) a8.e.id),y:=(ab.fA q.y aE aa aP q.x).1 }:g.cu) dE ad9 F190 ((([]:List aK)++[(⟨7,q.x,h.al,id,code,aE,1⟩:aK)])++[g.ek q.x h.al (a8.e,1)]) (([]:List bk)++[g.eB h.al q.d (a8.e,1)]) (bu.set eb a7.zero) aJ xE kH ga kG gN jW qJ ao.b1 xD) ?_
 rintro _ _ ⟨axC,aeO,aff,afI,aoc,rfl,ak6,amr,amU,hjl201,hel202,rfl⟩
 refine I 1 ?_
 refine w.one (ax.row 2 a) (fun azD=>?_)
 refine w.one (ax.row 7 a) (fun azE=>?_)
 refine aF ?_
 exact aO (by have dk:g.iX h q id aE O code aa aP aR=(g.fx h ({ q with n:=(q.n.set eb g.cp.zero),j:=(bj.drop (bj.c8 q.j id) a8.e.id),y:=(ab.fA q.y aE aa aP q.x).1 }:g.cu) ((([]:List aK)++[(⟨7,q.x,h.al,id,code,aE,1⟩:aK)])++[g.ek q.x h.al (a8.e,1)]) (([]:List bk)++[g.eB h.al q.d (a8.e,1)])):=abz;rw [dk];exact ⟨_,_,({ ah with eD:=aff,e5:=aeO,fj:=S0,hp:=fd }:g.ct),afI,aoc,rfl,⟨ak6,amr,(by have fe:=amU;have au:=ao.A;first|omega|(dsimp only at *;omega))⟩,kx⟩)
 refine K.kD Tryz.bE ?_
 refine ar.gV 11 15 a ?_ ?_
 refine ar.fH (df [(0,11),(15,0),(11,0),(12,3),(16,0),(17,1)]) [5,7,12] aN a ?_
 refine P Ka ?_
 intro ayB
 intro HF
 refine aD 1 ?_
 refine aL.one a (fun _ c=>by cases c<;>rfl) (ax.row 0 a) (fun IE=>?_)
 refine aD 2 ?_
 refine K.fD 7 Tryz.bE aN ?_
 refine aD 3 ?_
 refine w.cq (aq.jS 14 (k:=eb) (off:=0) (ae:=[a8.e.id,a8.e.am,a8.e.cg,a8.e.ck,a8.e.eN,a8.e.dm,a8.e.seq,.b 2,HF]) (r:=a8) (⟨a8.e,2,HF,(bn.c8 a8.cr id),IE⟩:a7) a a a a E iy a j3 a a (by simp only [k8,ri,jV,IE]<;>rfl) a a) ?_
 rintro _ _ rfl
 refine I 1 ?_
 refine w.one (ax.row 4 a) (fun ajZ=>?_)
 refine w.cq (aq.dC 6 o2 a a a a a (by simp only [k8,ri,jV,ajZ,kF]<;>rfl) a) ?_
 rintro _ _ rfl
 refine w.dw 2 a<|K.hv (a'.trans (a'.bz [0,15,1,2,3,4,5,6,7,8,9,10,11,12,13,14,16] a) (a'.lx (yE iy (⟨a8.e,2,HF,(bn.c8 a8.cr id),IE⟩:a7)))) ?_
 refine aF ?_
 exact aO (by have dk:g.iX h q id aE O code aa aP aR=(({ q with n:=(q.n.set eb ⟨a8.cL.e,a8.cL.bg,g.oa a8.cL.bg a8.cL.cr id⟩),j:=(bj.c8 q.j id),y:=(ab.fA q.y aE aa aP q.x).1 }:g.cu),([]:List aK)++[(⟨7,q.x,h.al,id,code,aE,1⟩:aK)],([]:List bk),0):=Rz;rw [dk];exact ⟨_,_,({ ah with fj:=y5,hp:=fd }:g.ct),aJ,(bu.set eb (⟨a8.e,2,HF,(bn.c8 a8.cr id),IE⟩:a7)),rfl,⟨LI,ao.b1,ot⟩,rfl⟩)
 refine ar.fH (df [(0,11),(11,0),(12,3),(15,0),(16,0),(17,1)]) [5,7,12] aN a ?_
 refine P Ka ?_
 intro HG
 refine aD 3 ?_
 intro ajn
 refine aL.one a (fun _ c=>by cases c<;>rfl) (ax.row 1 a) (fun IF=>?_)
 refine aD 2 ?_
 refine K.fD 7 Tryz.bE aN ?_
 refine aD 3 ?_
 refine w.cq (aq.jS 14 (k:=eb) (off:=0) (ae:=[a8.e.id,a8.e.am,a8.e.cg,a8.e.ck,a8.e.eN,a8.e.dm,a8.e.seq,.b 2,HG]) (r:=a8) (⟨a8.e,2,HG,(bn.c8 a8.cr id),IF⟩:a7) a a a a E iy a j3 a a (by simp only [k8,ri,jV,IF]<;>rfl) a a) ?_
 rintro _ _ rfl
 refine I 1 ?_
 refine w.one (ax.row 4 a) (fun IG=>?_)
 refine w.cq (aq.dC 6 o2 a a a a a (by simp only [k8,ri,jV,IG,kF]<;>rfl) a) ?_
 rintro _ _ rfl
 refine w.dw 2 a<|K.hv (a'.trans (a'.bz [1,15,0,2,3,4,5,6,7,8,9,10,11,12,13,14,16] a) (a'.lx (yE iy (⟨a8.e,2,HG,(bn.c8 a8.cr id),IF⟩:a7)))) ?_
 refine aF ?_
 exact aO (by have dk:g.iX h q id aE O code aa aP aR=(({ q with n:=(q.n.set eb ⟨a8.cL.e,a8.cL.bg,g.oa a8.cL.bg a8.cL.cr id⟩),j:=(bj.c8 q.j id),y:=(ab.fA q.y aE aa aP q.x).1 }:g.cu),([]:List aK)++[(⟨7,q.x,h.al,id,code,aE,1⟩:aK)],([]:List bk),0):=Rz;rw [dk];exact ⟨_,_,({ ah with fj:=y5,hp:=fd }:g.ct),aJ,(bu.set eb (⟨a8.e,2,HG,(bn.c8 a8.cr id),IF⟩:a7)),rfl,⟨LI,ao.b1,ot⟩,rfl⟩)
end Go.Proofs.YtohjlkjhpibkmaaGreatDoor
