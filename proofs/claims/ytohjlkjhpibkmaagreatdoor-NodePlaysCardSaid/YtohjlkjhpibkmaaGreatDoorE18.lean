/-
  Walks, printed by a program of mine.
-/
import Derived.KernelRfl
import Derived.Test.YtohjlkjhpibkmaaGreatDoorE16
import Derived.Test.YtohjlkjhpibkmaaGreatDoorE17
import Derived.Test.YtohjlkjhpibkmaaGreatDoorE14
import Derived.Test.YtohjlkjhpibkmaaGreatDoorE04
import Derived.Test.YtohjlkjhpibkmaaGreatDoorE05
set_option linter.all false
namespace Go.Proofs.YtohjlkjhpibkmaaGreatDoor
open Go Go.LK Go.Proofs.Tryz
set_option maxRecDepth 100000
set_option maxHeartbeats 4000000
def asV(A:Nat)(n p:Nat)(X:Value)(j:Int)(u:List T)(t:List (Int×Int))(id:Int)(bA:u.length≤100000)(R:g.hG u t)(W:(cx t id).isSome=true):M prog 208 #[A,id] [] [ai A [n,j] 206,ai n [.map (some p),j,X] 294,row X 66 7 (u.map T.cells),cw p (Value.int .i64) t] (fun m B=>∃ e eJ cU dF,m=.tuple #[.agg #[.b e.id,.b e.am,.b e.cg,.b e.ck,.b e.eN,.b e.dm,.b e.seq],.bool true]∧e.id=id∧u.Perm (e :: cU)∧g.hG cU dF∧B=[ai A [n,j] 206,ai n [.map (some p),j,eJ] 294,row eJ 66 7 (cU.map T.cells),cw p (Value.int .i64) dF]):=by
 refine M.aM func208 a ntmps208 a fun an=>?_
 refine P yX ?_
 refine aD 0 ?_
 intros
 refine P JU ?_
 rintro _ _ ⟨axo,fd,t5,hP,rfl,hx7,hq8,hk9,rfl⟩
 have lU:=R
 have ce:=hx7
 have hu:=hq8
 have R:=hk9
 refine aF ?_
 exact aO ⟨_,_,_,_,a,ce,hu,R,a⟩
def asX(jJ eg go A:Nat)(x:Int)(e:T)(aC:g.ew e x=0):M prog 207 #[e,jJ,eg,go] [ai jJ [x] 3,ai eg [A] 84] [] (fun m B=>m=.tuple #[]∧B=[]):=by
 refine M.aM func207 a ntmps207 a fun an=>?_
 refine P PW ?_
 refine I 0 ?_
 intros
 refine K.fZ a (by simp [aC]) ?_
 refine I 0 ?_
 exact cH
def asY(jJ eg go:Nat)(A:Nat)(n p:Nat)(X:Value)(j:Int)(u:List T)(t:List (Int×Int))(x:Int)(e:T)(aJ:Value)(s3:List T)(bA:u.length≤100000)(vk:s3.length≤99999)(R:g.hG u t)(aC:¬g.ew e x=0)(Q:e∈u):M prog 207 #[e,jJ,eg,go] [ai jJ [x] 3,ai eg [A] 84] [ai A [n,j] 206,ai n [.map (some p),j,X] 294,row X 66 7 (u.map T.cells),cw p (Value.int .i64) t,ai go [aJ] 52,row aJ 66 7 (s3.map T.cells)] (fun m B=>m=.tuple #[]∧∃ eJ cU dF dY,u.Perm (e :: cU)∧g.hG cU dF∧B=[ai A [n,j] 206,ai n [.map (some p),j,eJ] 294,row eJ 66 7 (cU.map T.cells),cw p (Value.int .i64) dF,ai go [dY] 52,row dY 66 7 ((s3++[e]).map T.cells)]):=by
 refine M.aM func207 a ntmps207 a fun an=>?_
 refine P PW ?_
 refine aD 2 ?_
 intros
 refine P (asV A n p X j u t e.id E R (R.gu Q)) ?_
 rintro _ _ ⟨axo,fd,t5,hP,rfl,hx7,hq8,hk9,rfl⟩
 have lU:=R
 have ce:=hx7
 have hu:=hq8
 have R:=hk9
 refine I 2 ?_
 refine w.f (aq.fs T.cells [e] iR gE qh a a a aN a a) a ?_
 rintro qg _ rfl
 refine aD 1 ?_
 intro mX
 refine w.one (ax.row 7 a) (fun vb=>?_)
 refine w.cq (aq.gy 6 pE vb a a a a) ?_
 rintro _ _ rfl
 refine aF ?_
 exact aO ⟨a,_,_,_,_,(lU.KB (hu.mem_iff.2 oU) Q ce) ▸ hu,R,a⟩
def Yd(A n p:Nat)(X:Value)(j:Int)(u:List T)(bA:u.length≤100000):M prog 40 #[A] [ai A [n,j] 206,ai n [.map (some p),j,X] 294,bF X 7 (u.map T.cells)] [] (fun m B=>∃ v:List T,v.Perm u∧v.Pairwise g.le∧B=[row m 66 7 (v.map T.cells)]):=by
 refine M.aM func40 a ntmps40 a fun an=>?_
 refine P yX ?_
 refine P JS ?_
 rintro ZP _ ⟨mO,vo,hs4,rfl⟩
 have fw:=vo
 have q6:=fw.length_eq
 have yz:=hs4
 refine aF ?_
 exact aO ⟨_,fw,yz,a⟩
def asW(jJ eg go:Nat)(A:Nat)(n p:Nat)(X:Value)(j:Int)(u:List T)(t:List (Int×Int))(x:Int)(aJ:Value)(bA:u.length≤99999)(R:g.hG u t):M prog 206 #[A,.func (.func 207) #[] #[jJ,eg,go]] [ai jJ [x] 3,ai eg [A] 84] [ai A [n,j] 206,ai n [.map (some p),j,X] 294,row X 66 7 (u.map T.cells),cw p (Value.int .i64) t,ai go [aJ] 52,row aJ 66 7 (([]:List T).map T.cells)] (fun m B=>m=.tuple #[]∧∃ eJ cU dF dY v,v.Perm u∧v.Pairwise g.le∧cU.Perm (g.k9 v x v.length)∧g.hG cU dF∧B=[ai A [n,j] 206,ai n [.map (some p),j,eJ] 294,row eJ 66 7 (cU.map T.cells),cw p (Value.int .i64) dF,ai go [dY] 52,row dY 66 7 ((g.np v x v.length).map T.cells)]):=by
 refine M.aM func206 a ntmps206 a fun an=>?_
 refine P Yd ?_
 rintro p2 _ ⟨pV,vn,Fz,rfl⟩
 have fw:=vn
 have q6:=fw.length_eq
 have yz:=Fz
 refine aD 1 ?_
 refine K.gw (bo:=Nat×Value×List T×(List (Int×Int))×Value×List T) (fun (d,kh,dR,dG,eS,ov1)=>d≤pV.length∧ov1=g.np pV x d∧dR.Perm (g.k9 pV x d++pV.drop d)∧g.hG dR dG) (fun (d,kh,dR,dG,eS,ov1)=>[(9,.b (d:Int))]) (fun (d,kh,dR,dG,eS,ov1)=>[ai n [.map (some p),j,kh] 294,row kh 66 7 (dR.map T.cells),cw p (Value.int .i64) dG,ai go [eS] 52,row eS 66 7 (ov1.map T.cells)]) (fun (d,kh,dR,dG,eS,ov1)=>pV.length-d) ⟨0,X,u,t,aJ,([]:List T)⟩ [1,7,8] [2,3,4,5,6] [1,0] ⟨by omega,rfl,g.av5 fw,R⟩ ⟨(hM E),trivial⟩ a a ?_
 rintro ⟨d,kh,dR,dG,eS,ov1⟩ ⟨yu,vk,ad,R⟩
 refine aU ?_ ?_
 refine I 0 ?_
 intros
 obtain ⟨eE,jj⟩:=c4 (f:=pV) (b:=d) E
 refine aD 4 ?_
 intros
 refine js (decide (g.ew eE x=0)) (fun dL=>?_) (fun dL=>?_)
 have s6:=dp dL
 refine I 1 ?_
 refine w.f (aq.dA call207 a a (asX jJ eg go A x eE (dp dL)) [] a (.b0 0 a (.b0 1 a .nil))) a ?_
 rintro _ _ ⟨_,⟨rfl,rfl⟩,rfl⟩
 refine I 1 ?_
 exact da ⟨d+1,kh,dR,dG,eS,ov1⟩ ⟨by omega,vk.trans (g.W2 jj (dp dL)).2.symm,g.av4 ad jj (dp dL),R⟩
 have qy:=fa dL
 refine I 1 ?_
 refine w.f (aq.dA call207 a a (asY jJ eg go A n p kh j dR dG x eE eS ov1 aaL aaL R (fa dL) (g.av3 ad jj)) [6,1,2,3,4,5] a (.b0 0 a (.b0 1 a .nil))) a ?_
 rintro _ _ ⟨_,⟨rfl,mX,t13,m14,W15,hq16,hk17,rfl⟩,rfl⟩
 have ad:=g.av1 ad jj (fa dL) hq16
 have R:=hk17
 refine I 1 ?_
 exact da ⟨d+1,mX,t13,m14,W15,ov1++[eE]⟩ ⟨by omega,(by rw [vk];exact (g.U3 jj (fa dL)).2.symm),ad,R⟩
 refine I 0 ?_
 intros
 exact K.H_ [] [5,0,1,2,3,4] a trivial a ⟨a,_,_,_,_,pV,fw,yz,g.av0 ad E yu,R,(by rw [vk,show d=pV.length from by omega])⟩
def asU(A:Nat)(n p:Nat)(X:Value)(j:Int)(u:List T)(t:List (Int×Int))(x:Int)(bA:u.length≤99999)(R:g.hG u t):M prog 103 #[A,x] [] [ai A [n,j] 206,ai n [.map (some p),j,X] 294,row X 66 7 (u.map T.cells),cw p (Value.int .i64) t] (fun m B=>∃ eJ cU dF v,v.Perm u∧v.Pairwise g.le∧cU.Perm (g.k9 v x v.length)∧g.hG cU dF∧B=[ai A [n,j] 206,ai n [.map (some p),j,eJ] 294,row eJ 66 7 (cU.map T.cells),cw p (Value.int .i64) dF,row m 66 7 ((g.np v x v.length).map T.cells)]):=by
 refine M.aM func103 a ntmps103 a fun an=>K.eV 2 a ?_
 refine w.f (aq.pF a a) a ?_
 rintro _ _ ⟨b9,rfl,rfl⟩
 refine w.f (aq.pF a a) a ?_
 rintro _ _ ⟨cS,rfl,rfl⟩
 refine w.e1 4 a ?_
 refine w.f (aq.iS zeroValue52 a) a ?_
 rintro _ _ ⟨dE,rfl,rfl⟩
 refine w.dw 2 a<|K.fg 66 7 (([]:List T).map T.cells) a ?_
 refine I 1 ?_
 refine w.n (U.makeFunc [cS,b9,dE] a) a ?_
 refine P asW ?_
 rintro _ _ ⟨rfl,fd,t5,hP,W7,o8,ho9,hs12,hq10,hk11,rfl⟩
 have fw:=ho9
 have ad:=hq10
 have R:=hk11
 have yz:=hs12
 refine aF ?_
 exact aO ⟨_,_,_,_,fw,yz,ad,R,a⟩
def asS(A:Nat)(n p:Nat)(X:Value)(j:Int)(u:List T)(t:List (Int×Int))(bA:u.length≤100000)(R:g.hG u t)(bB:0 < u.length):M prog 184 #[A] [] [ai A [n,j] 206,ai n [.map (some p),j,X] 294,row X 66 7 (u.map T.cells),cw p (Value.int .i64) t] (fun m B=>∃ e eJ cU dF,m=.tuple #[.agg #[.b e.id,.b e.am,.b e.cg,.b e.ck,.b e.eN,.b e.dm,.b e.seq],.bool true]∧u[0]?=some e∧u.Perm (e :: cU)∧g.hG cU dF∧B=[ai A [n,j] 206,ai n [.map (some p),j,eJ] 294,row eJ 66 7 (cU.map T.cells),cw p (Value.int .i64) dF]):=by
 refine M.aM func184 a ntmps184 a fun an=>?_
 refine P yX ?_
 intros
 refine P arR ?_
 exact adO
def asT(A n p:Nat)(X:Value)(j:Int)(u:List T)(t:List (Int×Int))(bB:u.length=0):M prog 184 #[A] [] [ai A [n,j] 206,ai n [.map (some p),j,X] 294,row X 66 7 (u.map T.cells),cw p (Value.int .i64) t] (fun m B=>m=.tuple #[T.zero,.bool false]∧B=[ai A [n,j] 206,ai n [.map (some p),j,X] 294,row X 66 7 (u.map T.cells),cw p (Value.int .i64) t]):=by
 refine M.aM func184 a ntmps184 a fun an=>?_
 refine P yX ?_
 refine P arS ?_
 exact cH
def asR(A:Nat)(n p:Nat)(X:Value)(j:Int)(u:List T)(t:List (Int×Int))(id:Int)(bA:u.length≤100000)(R:g.hG u t):M prog 176 #[A,id] [ai A [n,j] 206,ai n [.map (some p),j,X] 294,bF X 7 (u.map T.cells),cw p (Value.int .i64) t] [] (fun m B=>m=.bool (cx t id).isSome∧B=[]):=by
 refine M.aM func176 a ntmps176 a fun an=>?_
 refine P yX ?_
 refine P PJ ?_
 exact cH
def asQ(A:Nat)(n p:Nat)(X:Value)(j:Int)(u:List T)(t:List (Int×Int)):M prog 108 #[A] [] [ai A [n,j] 206,ai n [.map (some p),j,X] 294,row X 66 7 (u.map T.cells),cw p (Value.int .i64) t] (fun m B=>m=.tuple #[]∧B=[ai A [n,j] 206,ai n [.map (some p),j,Value.slice none 0 0] 294,row (Value.slice none 0 0) 66 7 (([]:List T).map T.cells),cw p (Value.int .i64) ([]:List (Int×Int))]):=by
 refine M.aM func108 a ntmps108 a fun an=>?_
 refine P yX ?_
 refine P arP ?_
 exact cH
def Ye(j:Int)(bU:1≤j)(gk:j≤64):M prog 54 #[j] [] [] (fun m B=>∃ A n p,m=.tuple #[.n A,.b 0]∧B=[ai A [.n n,j] 206,ai n [.map (some p),j,Value.slice none 0 0] 294,row (Value.slice none 0 0) 66 7 (([]:List T).map T.cells),cw p (Value.int .i64) ([]:List (Int×Int))]):=by
 refine M.aM func54 a ntmps54 a fun an=>?_
 refine I 0 ?_
 refine K.fZ a (p4 E) ?_
 refine I 0 ?_
 refine P arQ ?_
 rintro _ _ ⟨b9,j4,rfl,rfl⟩
 refine aF ?_
 intro mG
 exact aO ⟨mG,b9,j4,a,a⟩
def Dn(H:Nat)(aY:Int)(af:g.fh):M prog 116 #[H] [ai H ([Value.b aY]++af.map g.jR) 210] [] (fun m B=>m=.b aY∧B=[]):=by
 refine M.aM func116 a ntmps116 a fun an=>?_
 refine I 0 ?_
 refine w.n (U.jA underlying85 a) a ?_
 exact cH
def Zp(H:Nat)(aY:Int)(af:g.fh)(id:Int)(S:af.length=16)(jv:0≤aY)(bh:aY≤16):M prog 267 #[H,id] [ai H ([Value.b aY]++af.map g.jR) 210,c1 (g.my 66 af)] [] (fun m B=>∃ (d:Nat) (p:Bool),m=.tuple #[.b (d:Int),.bool p]∧(p=true→∃ L F,af[d]?=some (some (L,F))∧F.id=id∧(d:Int) < aY)∧(p=false→∀ (k L:Nat) (F:T),(k:Int) < aY→af[k]?=some (some (L,F))→F.id≠id)∧B=[]):=by
 refine M.aM func267 a ntmps267 a fun an=>?_
 refine P Dn ?_
 refine I 0 ?_
 refine de (bo:=Nat) (fun d=>(d:Int)≤aY∧(∀ (k L:Nat) (F:T),k < d→af[k]?=some (some (L,F))→F.id≠id)) (fun d=>[(10,.b (d:Int))]) (fun d=>[]) (fun d=>aY.toNat-d) 0 [0,1,9] ⟨by omega,fun gl Iq l5 au=>by omega⟩ ?_
 rintro d ⟨R,dy⟩
 refine aU ?_ ?_
 refine I 0 ?_
 intros
 obtain ⟨cP,h3⟩:=c4 (f:=af) (b:=((d:Int)).toNat) E
 refine w.n (U.oJ wq tM a a E E) a<|w.A (aV.hh a (eZ.lF 0 a) (v:=0) (off:=1+((d:Int)).toNat) E (fr.one isAgg207 (x3 a h3))) a ?_
 refine I 0 ?_
 rcases cP with _|⟨qm,Bp⟩
 refine I 0 ?_
 refine w.n (U.asE Eb a) a ?_
 refine I 1 ?_
 exact adN
 refine I 0 ?_
 refine w.n (U.pY Eb a) a ?_
 refine I 0 ?_
 refine w.el (aV.hh a (eZ.YP 1 a (g.P9 h3)) (v:=0) (off:=0) a (fr.one ds a)) a a ?_
 refine aU ?_ ?_
 refine aF ?_
 intros
 exact aO ⟨d,true,a,fun _=>⟨qm,Bp,h3,bO,E⟩,(fun au=>by cases au),a⟩
 refine I 1 ?_
 intros
 exact adN
 refine aF ?_
 intros
 exact aO ⟨0,false,a,(fun au=>by cases au),(fun _ gl Iq l5 CH AK=>dy gl Iq l5 E AK),a⟩
def avm(H:Nat)(aY:Int)(af:g.fh)(id:Int)(S:af.length=16)(jv:0≤aY)(bh:aY≤16)(dy:∀ (k L:Nat) (F:T),(k:Int) < aY→af[k]?=some (some (L,F))→F.id≠id):M prog 267 #[H,id] [ai H ([Value.b aY]++af.map g.jR) 210,c1 (g.my 66 af)] [] (fun m B=>∃ d:Nat,m=.tuple #[.b (d:Int),.bool false]∧B=[]):=by
  refine (Zp H aY af id S jv bh).xm fun m B ⟨d,p,ba,G,bB,dv⟩=>?_
  cases p with
  | false=>exact ⟨d,ba,dv⟩
  | true=>obtain ⟨L,F,J,aA,aZ⟩:=G rfl;exact absurd aA (dy d L F aZ J)
def avn(H:Nat)(aY:Int)(af:g.fh)(id:Int)(S:af.length=16)(jv:0≤aY)(bh:aY≤16)(az:∃ (k L:Nat) (F:T),(k:Int) < aY∧af[k]?=some (some (L,F))∧F.id=id):M prog 267 #[H,id] [ai H ([Value.b aY]++af.map g.jR) 210,c1 (g.my 66 af)] [] (fun m B=>∃ (d L:Nat) (F:T),m=.tuple #[.b (d:Int),.bool true]∧af[d]?=some (some (L,F))∧F.id=id∧(d:Int) < aY∧B=[]):=by
  refine (Zp H aY af id S jv bh).xm fun m B ⟨d,p,ba,G,bB,dv⟩=>?_
  cases p with
  | false=>obtain ⟨k,L,F,J,aA,aZ⟩:=az;exact absurd aZ (bB rfl k L F J aA)
  | true=>obtain ⟨L,F,J,aA,aZ⟩:=G rfl;exact ⟨d,L,F,ba,J,aA,aZ,dv⟩
def avp(H:Nat)(aY:Int)(af:g.fh)(e:T)(S:af.length=16)(jv:0≤aY)(bh:aY≤16)(dy:∀ (k L:Nat) (F:T),(k:Int) < aY→af[k]?=some (some (L,F))→F.id≠e.id)(sO:∃ d:Nat,(d:Int) < aY∧af[d]?=some none):M prog 185 #[H,e] [] [ai H ([Value.b aY]++af.map g.jR) 210,c1 (g.my 66 af)] (fun m B=>∃ (L d:Nat),m=.tuple #[.b (d:Int),.b 0]∧(d:Int) < aY∧af[d]?=some none∧(∀ k:Nat,k < d→af[k]?≠some none)∧B=[ai L e.cells 66,ai H ([Value.b aY]++(af.set d (some (L,e))).map g.jR) 210,c1 (g.my 66 af)]):=by
 refine M.aM func185 a ntmps185 a fun an=>?_
 refine P avm ?_
 refine P Dn ?_
 refine I 0 ?_
 intro b9 _
 refine de (bo:=Nat) (fun d=>(d:Int)≤aY∧(∀ k:Nat,k < d→af[k]?≠some none)) (fun d=>[(19,.b (d:Int))]) (fun d=>[]) (fun d=>aY.toNat-d) 0 [0,3,18] ⟨by omega,fun gl au=>by omega⟩ ?_
 rintro d ⟨R,Fp⟩
 refine aU ?_ ?_
 refine I 0 ?_
 intros
 obtain ⟨eE,qq⟩:=c4 (f:=af) (b:=((d:Int)).toNat) E
 refine w.n (U.oJ wq tM a a E E) a<|w.A (aV.hh a (eZ.ai 1 a) (v:=0) (off:=1+((d:Int)).toNat) E (fr.one isAgg207 (x3 a qq))) a<|w.n (g.U.au0 Eb a) a ?_
 refine I 0 ?_
 refine K.cond a (fun dL=>?_) (fun dL=>?_)
 refine I 0 ?_
 refine w.n (U.oJ wq tM a a E E) a ?_
 refine w.cq (aq.store 1 (ae:=[b9]) ([Value.b aY]++(af.set ((d:Int)).toNat (some (b9,e))).map g.jR) a a a tM a a a (Qd (z:=g.jR) (ao:=[Value.b aY]) (s:=0+1) (e:=(some (b9,e))) (f:=af) (b:=((d:Int)).toNat) a E) (N7 (z:=g.jR) (ao:=[Value.b aY]) (s:=0+1) (f:=af) (b:=((d:Int)).toNat) a E)) ?_
 rintro _ _ rfl
 refine aF ?_
 exact aO ⟨b9,d,a,E,(by have dx:af[d]?=_:=qq;rw [Option.isNone_iff_eq_none.1 dL] at dx;exact dx),Fp,a⟩
 refine I 1 ?_
 exact da (d+1) ⟨by omega,fun gl CH AK=>by rcases mR gl d with au|au;exact Fp gl au AK;(have fe:gl=d:=by omega);rw [fe] at AK;have dx:=(show af[d]?=_ from qq).symm.trans AK;rw [p8 dx] at dL;cases dL⟩
 intros
 obtain ⟨C0,e4,dx⟩:=sO;exact absurd dx (Fp C0 E)
def avr(H:Nat)(aY:Int)(af:g.fh)(id:Int)(S:af.length=16)(jv:0≤aY)(bh:aY≤16)(az:∃ (k L:Nat) (F:T),(k:Int) < aY∧af[k]?=some (some (L,F))∧F.id=id):M prog 272 #[H,id] [] [ai H ([Value.b aY]++af.map g.jR) 210,c1 (g.my 66 af)] (fun m B=>∃ (d L:Nat) (F:T),m=.tuple #[F,.bool true]∧af[d]?=some (some (L,F))∧F.id=id∧(d:Int) < aY∧B=[ai H ([Value.b aY]++(af.set d none).map g.jR) 210,c1 (g.my 66 af)]):=by
 refine M.aM func272 a ntmps272 a fun an=>?_
 refine aD 1 ?_
 intros
 refine P avn ?_
 rintro _ _ ⟨bR,dE,rh,rfl,hp5,hi6,hk7,rfl⟩
 refine I 0 ?_
 refine w.n (U.oJ wq tM a a E E) a<|w.A (aV.hh a (eZ.ai 1 a) (v:=0) (off:=1+((bR:Int)).toNat) E (fr.one isAgg207 (x3 a hp5))) a ?_
 refine I 0 ?_
 refine w.A (aV.hh a (eZ.c1 2 a (g.P9 hp5)) (v:=0) (off:=0) a (fr.agg [rh.id,rh.am,rh.cg,rh.ck,rh.eN,rh.dm,rh.seq] qL gE a a)) a ?_
 refine I 2 ?_
 intros
 refine w.n (U.oJ wq tM a a E E) a ?_
 refine w.cq (aq.store 2 (ae:=[Value.pointer none]) ([Value.b aY]++(af.set ((bR:Int)).toNat none).map g.jR) a a a tM a a a (Qd (z:=g.jR) (ao:=[Value.b aY]) (s:=0+1) (e:=none) (f:=af) (b:=((bR:Int)).toNat) a E) (N7 (z:=g.jR) (ao:=[Value.b aY]) (s:=0+1) (f:=af) (b:=((bR:Int)).toNat) a E)) ?_
 rintro _ _ rfl
 refine aF ?_
 exact aO ⟨bR,dE,rh,a,hp5,hi6,E,a⟩
def avo(H:Nat)(aY:Int)(af:g.fh)(e:T)(S:af.length=16)(jv:0≤aY)(bh:aY≤16)(rQ:g.nV af aY.toNat)(dy:∀ (k L:Nat) (F:T),(k:Int) < aY→af[k]?=some (some (L,F))→F.id≠e.id)(sO:∃ d:Nat,(d:Int) < aY∧af[d]?=some none):M prog 185 #[H,e] [] [ai H ([Value.b aY]++af.map g.jR) 210,c1 (g.my 66 af)] (fun m B=>∃ (d:Nat) (c':g.fh),m=.tuple #[.b (d:Int),.b 0]∧c'.length=16∧g.nV c' aY.toNat∧(g.c5 c').Perm (e :: g.c5 af)∧g.Hv aY.toNat af c' e∧B=[ai H ([Value.b aY]++c'.map g.jR) 210,c1 (g.my 66 c')]):=by
 refine (avp H aY af e S jv bh dy sO).conv (a'.refl _) ?_
 rintro m B ⟨L,d,rfl,R,ad,Fp,rfl⟩
 refine ⟨_,⟨d,_,rfl,by simpa using S,g.TJ rQ E,(g.X' (L:=L) (Y:=66) ad).1,⟨d,L,by omega,ad,Fp,rfl⟩,rfl⟩,?_⟩
 refine a'.trans (a'.pk (List.Perm.swap _ _ _)) (a'.cons ?_)
 exact g.Cb (g.X' (Y:=66) ad).2
def avq(H:Nat)(aY:Int)(af:g.fh)(id:Int)(S:af.length=16)(jv:0≤aY)(bh:aY≤16)(rQ:g.nV af aY.toNat)(az:∃ (k L:Nat) (F:T),(k:Int) < aY∧af[k]?=some (some (L,F))∧F.id=id):M prog 272 #[H,id] [] [ai H ([Value.b aY]++af.map g.jR) 210,c1 (g.my 66 af)] (fun m B=>∃ (F:T) (c':g.fh),m=.tuple #[F,.bool true]∧F.id=id∧c'.length=16∧g.nV c' aY.toNat∧(g.c5 af).Perm (F :: g.c5 c')∧g.xP aY.toNat af c' F∧B=[ai H ([Value.b aY]++c'.map g.jR) 210,c1 (g.my 66 c')]):=by
 refine (avr H aY af id S jv bh az).conv (a'.refl _) ?_
 rintro m B ⟨d,L,F,rfl,ad,gj,R,rfl⟩
 refine ⟨_,⟨F,_,rfl,gj,by simpa using S,g.TJ rQ E,(g.Ku (Y:=66) ad).1,⟨d,L,by omega,ad,rfl⟩,rfl⟩,a'.cons ?_⟩
 exact g.MH (g.Ku (Y:=66) ad).2
def ave(H:Nat)(aY:Int)(af:g.fh)(d:Int)(S:af.length=16)(jv:0≤aY)(bh:aY≤16)(lU:0≤d)(V7:d < aY)(R:af[d.toNat]?=some none):M prog 117 #[H,d] [ai H ([Value.b aY]++af.map g.jR) 210,c1 (g.my 66 af)] [] (fun m B=>m=.tuple #[T.zero,.bool false]∧B=[]):=by
 refine M.aM func117 a ntmps117 a fun an=>?_
 refine I 1 ?_
 intros
 refine w.kK 8 a (p4 E) ?_
 refine P Dn ?_
 refine I 0 ?_
 refine w.kK 14 a (p4 E) ?_
 refine I 0 ?_
 refine w.el (U.dg (U.oJ wq tM a a E E)) a a<|w.el (aV.hh a (eZ.lF 0 a) (v:=0) (off:=1+(d).toNat) E (fr.one isAgg207 (x3 a R))) a a<|w.el (U.dg (U.Ps Eb a)) a a ?_
 exact cH
def avd(H:Nat)(aY:Int)(af:g.fh)(d:Int)(L:Nat)(F:T)(S:af.length=16)(jv:0≤aY)(bh:aY≤16)(lU:0≤d)(V7:d < aY)(R:af[d.toNat]?=some (some (L,F))):M prog 117 #[H,d] [ai H ([Value.b aY]++af.map g.jR) 210,c1 (g.my 66 af)] [] (fun m B=>m=.tuple #[F,.bool true]∧B=[]):=by
 refine M.aM func117 a ntmps117 a fun an=>?_
 refine I 1 ?_
 intros
 refine w.kK 8 a (p4 E) ?_
 refine P Dn ?_
 refine I 0 ?_
 refine w.kK 14 a (p4 E) ?_
 refine I 0 ?_
 refine w.el (U.dg (U.oJ wq tM a a E E)) a a<|w.el (aV.hh a (eZ.lF 0 a) (v:=0) (off:=1+(d).toNat) E (fr.one isAgg207 (x3 a R))) a a<|w.el (U.dg (U.jA Eb a)) a a ?_
 refine I 0 ?_
 refine w.n (U.oJ wq tM a a E E) a<|w.A (aV.hh a (eZ.lF 0 a) (v:=0) (off:=1+(d).toNat) E (fr.one isAgg207 (x3 a R))) a ?_
 refine I 0 ?_
 refine w.A (aV.hh a (eZ.YP 1 a (g.P9 R)) (v:=0) (off:=0) a (fr.agg [F.id,F.am,F.cg,F.ck,F.eN,F.dm,F.seq] qL gE a a)) a ?_
 exact cH
def Zn(H:Nat)(aY:Int)(af:g.fh)(S:af.length=16)(jv:0≤aY)(bh:aY≤16):M prog 41 #[H] [ai H ([Value.b aY]++af.map g.jR) 210,c1 (g.my 66 af)] [] (fun m B=>B=[row m 66 7 ((g.c5 (af.take aY.toNat)).map T.cells)]):=by
 refine M.aM func41 a ntmps41 a fun an=>K.fC 10 a<|K.fg 66 7 (([]:List T).map T.cells) a ?_
 refine P Dn ?_
 refine I 0 ?_
 refine de (bo:=Nat×Value×List T) (fun (d,aJ,s3)=>(d:Int)≤aY∧s3=g.c5 (af.take d)) (fun (d,aJ,s3)=>[(3,aJ),(9,.b (d:Int))]) (fun (d,aJ,s3)=>[row aJ 66 7 (s3.map T.cells)]) (fun (d,aJ,s3)=>aY.toNat-d) ⟨0,Value.slice none 0 0,([]:List T)⟩ [0,2,8] ⟨by omega,rfl⟩ ?_
 rintro ⟨d,aJ,s3⟩ ⟨R,vk⟩
 refine aU ?_ ?_
 refine I 0 ?_
 intros
 rcases g.agH (af:=af) (d:=d) E with il|⟨mG,y_,il⟩
 refine P ave ?_
 refine I 3 ?_
 intros
 exact da ⟨d+1,aJ,s3⟩ ⟨by omega,vk.trans (g.anM il).symm⟩
 refine P avd ?_
 refine I 3 ?_
 intros
 refine w.f (aq.fs T.cells [y_] iR gE qh a a a aN a a) a ?_
 rintro pz _ rfl
 refine w.f (aq.gg 2 px oc a a a a a (ax.row 0 a) T.one aaJ aaJ) a ?_
 rintro qg _ rfl
 refine I 1 ?_
 exact da ⟨d+1,qg,s3++([y_])⟩ ⟨by omega,(by rw [vk];exact (g.WI il).symm)⟩
 refine I 0 ?_
 intros
 exact K.l2 [0] a a a (by rw [vk,show d=aY.toNat from by omega];rfl)
def avi(H:Nat)(aY:Int)(af:g.fh)(S:af.length=16)(jv:0≤aY)(bh:aY≤16):M prog 183 #[H] [ai H ([Value.b aY]++af.map g.jR) 210,c1 (g.my 66 af)] [] (fun m B=>m=.b (aY-((g.c5 (af.take aY.toNat)).length:Int))∧B=[]):=by
 refine M.aM func183 a ntmps183 a fun an=>?_
 refine P Dn ?_
 refine I 0 ?_
 refine w.f (aq.fl call41 (Zn H aY af S jv bh) [] a a (.b0 0 a (.b0 1 a .nil))) a ?_
 rintro iK _ ⟨_,rfl,rfl⟩
 refine w.A (aV.jN iR a (ax.row 0 a)) a<|w.n (U.lG a a (by first|omega|(have au:=g.OT (af:=af) (d:=aY.toNat);omega))) a ?_
 refine I 0 ?_
 exact cH
def avg(H:Nat)(aY:Int)(af:g.fh)(S:af.length=16):M prog 109 #[H] [] [ai H ([Value.b aY]++af.map g.jR) 210] (fun m B=>m=.tuple #[]∧B=[ai H ([Value.b aY]++(List.replicate 16 none).map g.jR) 210]):=by
 refine M.aM func109 a ntmps109 a fun an=>?_
 refine I 0 ?_
 refine w.n (U.pY underlying85 a) a ?_
 refine I 0 ?_
 refine w.n (U.oz [] [Value.pointer none,Value.pointer none,Value.pointer none,Value.pointer none,Value.pointer none,Value.pointer none,Value.pointer none,Value.pointer none,Value.pointer none,Value.pointer none,Value.pointer none,Value.pointer none,Value.pointer none,Value.pointer none,Value.pointer none,Value.pointer none] wq zeroValue208 tM a aN) a ?_
 refine I 0 ?_
 refine w.cq (aq.store 0 (ae:=List.replicate 16 (g.jR none)) ([Value.b aY]++(List.replicate 16 none).map g.jR) a a a sizeOf208 a a a (Zh (z:=g.jR) (ao:=[Value.b aY]) (s:=0+1) a S) (by rw [aar,eh,fc,S];simp)) ?_
 rintro _ _ rfl
 exact cH
def Zo(aY:Int)(jv:1≤aY)(bh:aY≤16):M prog 55 #[aY] [] [] (fun m B=>∃ H,m=.tuple #[.n H,.b 0]∧B=[ai H ([Value.b aY]++(List.replicate 16 none:g.fh).map g.jR) 210]):=by
 refine M.aM func55 a ntmps55 a fun an=>?_
 exact adE
def au6(H p:Nat)(ah:Value)(z s:Int)(b7:List Int)(t:List (Int×Int)):M prog 121 #[H] [ai H [ah,z,s,.map (some p)] 180] [] (fun m B=>m=.b s∧B=[]):=by
 refine M.aM func121 a ntmps121 a fun an=>?_
 refine I 0 ?_
 refine w.n (U.jA Hu a) a ?_
 exact cH
def au5(H p:Nat)(ah:Value)(z s:Int)(b7:List Int)(t:List (Int×Int))(id:Int):M prog 260 #[H,id] [ai H [ah,z,s,.map (some p)] 180,cw p (Value.int .i64) t] [] (fun m B=>m=.bool (cx t id).isSome∧B=[]):=by
 refine M.aM func260 a ntmps260 a fun an=>?_
 refine I 0 ?_
 refine w.n (U.jA Hu a) a ?_
 exact adJ
def Kj(H p:Nat)(ah:Value)(z s:Int)(b7:List Int)(t:List (Int×Int))(H5:Int)(dI:b7.length≤256)(pR:0≤z)(mh:z < b7.length∨b7.length=0∧z=0)(lV:0≤s)(q5:s≤b7.length)(aAe:0≤H5)(Ag:H5≤1000)(ad:0 < b7.length):M prog 122 #[H,H5] [ai H [ah,z,s,.map (some p)] 180,bF ah 1 (b7.map bH)] [] (fun m B=>m=.b ((z+H5)%(b7.length:Int))∧B=[]):=by
 refine M.aM func122 a ntmps122 a fun an=>?_
 refine I 0 ?_
 refine K.kk Tryz.bE aN ?_
 exact cH
def au3(H p:Nat)(ah:Value)(z s:Int)(b7:List Int)(t:List (Int×Int))(dI:b7.length≤256)(pR:0≤z)(mh:z < b7.length∨b7.length=0∧z=0)(lV:0≤s)(q5:s≤b7.length):M prog 48 #[H] [ai H [ah,z,s,.map (some p)] 180,bF ah 1 (b7.map bH)] [] (fun m B=>B=[row m 3 1 ((g.iY b7 z s).map bH)]):=by
 refine M.aM func48 a ntmps48 a fun an=>K.fC 10 a<|K.fg 3 1 (([]:List Int).map bH) a ?_
 refine P au6 ?_
 refine I 0 ?_
 refine de (bo:=Nat×Value×List Int) (fun (d,aJ,v)=>(d:Int)≤s∧v=g.iY b7 z (d:Int)) (fun (d,aJ,v)=>[(3,aJ),(7,.b (d:Int))]) (fun (d,aJ,v)=>[row aJ 3 1 (v.map bH)]) (fun (d,aJ,v)=>s.toNat-d) ⟨0,Value.slice none 0 0,([]:List Int)⟩ [0,2,6] ⟨by omega,rfl⟩ ?_
 rintro ⟨d,aJ,v⟩ ⟨R,bw⟩
 refine aU ?_ ?_
 refine I 0 ?_
 intros
 refine K.ef (df [(0,7),(7,0),(8,2),(10,0),(11,0),(12,1)]) [] Tryz.bE aN a ?_
 refine P Kj ?_
 obtain ⟨aZ,bT⟩:=g.zX (b7:=b7) (l:=z+(d:Int)) E
 refine aD 1 ?_
 obtain ⟨na,qq⟩:=c4 (f:=b7) (b:=((z+(d:Int))%(b7.length:Int)).toNat) E
 refine aD 2 ?_
 refine aL.f a (aq.fs bH [na] gz dt iF a a a aN a a) a ?_
 rintro j1 _ rfl
 refine gr.iS [] a aN ?_
 refine aL.f a (aq.gg 1 qN nE a a a a a (ax.row 0 a) bH.one aaN aaN) a ?_
 rintro k' _ rfl
 refine gr.kV [] [] a a<|aL.Z 1 a<|aL.nil ?_
 refine I 1 ?_
 exact da ⟨d+1,k',v++([na])⟩ ⟨by omega,(by rw [bw];exact (g.avy qq).symm)⟩
 refine I 0 ?_
 intros
 exact K.l2 [0] a a a (by rw [bw,show (d:Int)=s from by omega];rfl)
def au4(H p:Nat)(ah:Value)(z s:Int)(b7:List Int)(t:List (Int×Int)):M prog 112 #[H] [] [ai H [ah,z,s,.map (some p)] 180,row ah 3 1 (b7.map bH),cw p (Value.int .i64) t] (fun m B=>m=.tuple #[]∧B=[ai H [ah,.b 0,.b 0,.map (some p)] 180,row ah 3 1 (b7.map bH),cw p (Value.int .i64) ([]:List (Int×Int))]):=by
 refine M.aM func112 a ntmps112 a fun an=>?_
 refine I 0 ?_
 refine w.n (U.pY Hu a) a ?_
 refine I 3 ?_
 refine w.cq (aq.FN 2 a jY a a) ?_
 rintro _ _ rfl
 exact cH
def Zd(j:Int)(kY:0≤j)(bU:j≤256):M prog 53 #[j] [] [] (fun m B=>∃ (H p:Nat) (ah:Value) (b7:List Int),m=.tuple #[H,.b 0]∧(b7.length:Int)=j∧B=[ai H [ah,.b 0,.b 0,.map (some p)] 180,row ah 3 1 (b7.map bH),cw p (Value.int .i64) ([]:List (Int×Int))]):=by
 refine M.aM func53 a ntmps53 a fun an=>?_
 refine I 0 ?_
 refine w.kK 6 a (p4 E) ?_
 refine I 0 ?_
 refine K.fZ a (p4 E) ?_
 refine I 0 ?_
 refine w.f (aq.yH (aI:=(0:Int)) (z:=bH) (t:=j.toNat) (H:=1) (bytes:=8) gz (fun j=>run_typeInfo j DN) GZ dt iF a a E E bd a a bd a) a ?_
 rintro kh _ rfl
 refine w.f (aq.AX (Value.int .i64)) a ?_
 rintro _ _ ⟨j4,rfl,rfl⟩
 refine w.one (ax.row 1 a) (fun Ad=>?_)
 refine w.n (U.build [(0,kh),(3,.map (some j4))] [kh,.b 0,.b 0,.map (some j4)] #[(0,1),(1,1),(2,1),(3,1)] runUnderlying180 zeroValue180 (ar9 underlying180) a (by cases kh<;>first|(simp [Value.oneCell'] at Ad;done)|(kernel_rfl;done))) a ?_
 refine I 1 ?_
 intro mG
 exact K.lE [_,_] [0,2,1] a ⟨a,a,trivial⟩ a ⟨mG,j4,kh,_,a,v1,a⟩
def au7(H p:Nat)(ah:Value)(z s:Int)(b7:List Int)(t:List (Int×Int))(id:Int)(dI:b7.length≤256)(pR:0≤z)(mh:z < b7.length∨b7.length=0∧z=0)(lV:0≤s)(q5:s≤b7.length)(hf:g.nq b7 z s t):M prog 177 #[H,id] [] [ai H [ah,z,s,.map (some p)] 180,row ah 3 1 (b7.map bH),cw p (Value.int .i64) t] (fun m B=>∃ (A:Bool) (pK w5:Int) (vD:List Int) (dF:List (Int×Int)),m=.bool A∧(vD.length=b7.length∧0≤pK∧(pK < b7.length∨b7.length=0∧pK=0)∧0≤w5∧w5≤b7.length)∧A=(!(cx t id).isSome)∧g.nq vD pK w5 dF∧g.iY vD pK w5=g.gJ (g.iY b7 z s) b7.length id∧B=[ai H [ah,pK,w5,.map (some p)] 180,row ah 3 1 (vD.map bH),cw p (Value.int .i64) dF]):=by
 refine M.aM func177 a ntmps177 a fun an=>?_
 refine P au5 ?_
 refine I 0 ?_
 refine K.cond a (fun J=>?_) (fun J=>?_)
 refine aF ?_
 exact aO ⟨_,_,_,_,_,a,⟨Ll,E,E,E,E⟩,mT,hf,(hf.gu J).symm,a⟩
 refine I 0 ?_
 refine w.n (U.jA Hu a) a ?_
 refine aU ?_ ?_
 refine aF ?_
 intros
 exact aO ⟨_,_,_,_,_,a,⟨Ll,E,E,E,E⟩,mT,hf,(hf.none J E lV q5).symm,a⟩
 refine I 0 ?_
 intros
 refine K.kk Tryz.bE aN ?_
 refine aU ?_ ?_
 refine I 0 ?_
 intros
 refine K.fD 14 Tryz.bE aN ?_
 refine aD 3 ?_
 obtain ⟨dZ,ji⟩:=c4 (f:=b7) (b:=(z).toNat) E
 refine aD 2 ?_
 refine w.cq (aq.yJ 2 a jY e2 a a a) ?_
 rintro _ _ rfl
 refine P Kj ?_
 obtain ⟨gi,dL⟩:=g.zX (b7:=b7) (l:=z+1) E
 refine P Kj ?_
 obtain ⟨lR,nc⟩:=g.zX (b7:=b7) (l:=((z+1)%(b7.length:Int))+(s-1)) E
 refine I 0 ?_
 refine K.ef (df [(0,13),(13,0),(14,0),(15,1),(16,0)]) [0,1] Tryz.bE aN a ?_
 refine aD 2 ?_
 obtain ⟨gA,pa⟩:=c4 (f:=b7) (b:=((((z+1)%(b7.length:Int))+(s-1))%(b7.length:Int)).toNat) E
 refine aD 1 ?_
 refine aL.cq a (aq.jS 1 (k:=((((z+1)%(b7.length:Int))+(s-1))%(b7.length:Int)).toNat) (off:=0) (ae:=[id]) (r:=[gA]) id a a a a E pa a dt a a a a a) ?_
 rintro _ _ rfl
 refine aD 1 ?_
 refine aL.f a (aq.Jl 2 jY e2 iF a a a) a ?_
 rintro _ _ ⟨u16,vR,rfl,rfl⟩
 refine aD 1 ?_
 refine aL.cq a (aq.Ng (aG:=(((z+1)%(b7.length:Int))+(s-1))%(b7.length:Int)) 2 a a a a) ?_
 rintro _ _ rfl
 refine aF ?_
 exact aO ⟨_,_,_,_,_,a,⟨Ll,E,E,E,E⟩,mT,(hf.pM J pR E E bO).1,(hf.pM (m:=0) J pR E E bO).2,a⟩
 refine P Kj ?_
 intros
 obtain ⟨Cr,wI⟩:=g.zX (b7:=b7) (l:=z+s) E
 refine I 0 ?_
 refine K.ef (df [(0,13),(13,0),(14,0),(15,1),(16,0)]) [0,1] Tryz.bE aN a ?_
 refine aD 2 ?_
 obtain ⟨aiI,aks⟩:=c4 (f:=b7) (b:=((z+s)%(b7.length:Int)).toNat) E
 refine aD 1 ?_
 refine aL.cq a (aq.jS 1 (k:=((z+s)%(b7.length:Int)).toNat) (off:=0) (ae:=[id]) (r:=[aiI]) id a a a a E aks a dt a a a a a) ?_
 rintro _ _ rfl
 refine aD 1 ?_
 refine aL.f a (aq.Jl 2 jY e2 iF a a a) a ?_
 rintro _ _ ⟨aBf,x25,rfl,rfl⟩
 refine aD 1 ?_
 refine aL.cq a (aq.Ng (aG:=(z+s)%(b7.length:Int)) 2 a a a a) ?_
 rintro _ _ rfl
 refine aF ?_
 exact aO ⟨_,_,_,_,_,a,⟨Ll,E,E,E,E⟩,mT,(hf.room J pR E lV E).1,(hf.room (m:=0) J pR E lV E).2,a⟩
def ag3(l p:Int)(G:0≤l∧l≤2147483647)(J:0≤p∧p≤2147483647):M prog 370 #[l,p] [] [] (fun m B=>m=.b (if p=0 then 0 else l / p)∧B=[]):=by
 refine M.aM func370 a ntmps370 a fun an=>?_
 refine aU ?_ ?_
 exact RY
 refine I 0 ?_
 intros
 refine w.n (U.xa a a E E E) a ?_
 refine aF ?_
 exact L1
def ag0(l p:Int):M prog 226 #[l,p,.func (.func 370) #[] #[]] [] [] (fun m B=>m=.b (g.gd l p)∧B=[]):=by
 refine M.aM func226 a ntmps226 a fun an=>?_
 refine P lb ?_
 refine P lb ?_
 refine w.f (aq.dA call370 a a (ag3 (ab.cc l 2147483647) (ab.cc p 2147483647) (ab.gP _ bd) (ab.gP _ bd)) [] a .nil) a ?_
 exact He
def agY(l p:Int):M prog 330 #[l,p] [] [] (fun m B=>m=.b (g.gd l p)∧B=[]):=by
 refine M.aM func330 a ntmps330 a fun an=>?_
 refine P ag0 ?_
 exact cH
def apb(f:Nat)(ez eA gb:Int):M prog 371 #[f,.b 0] [ai f [ez,eA,gb] 311] [] (fun m B=>m=.b ez∧B=[]):=by
 refine M.aM func371 a ntmps371 a fun an=>?_
 refine I 0 ?_
 refine w.n (U.jA Ht a) a ?_
 refine I 0 ?_
 refine w.n (U.jx 0 qP dt a a bd bd a) a ?_
 exact cH
def apc(f:Nat)(ez eA gb:Int):M prog 371 #[f,.b 1] [ai f [ez,eA,gb] 311] [] (fun m B=>m=.b eA∧B=[]):=by
 refine M.aM func371 a ntmps371 a fun an=>?_
 refine I 0 ?_
 refine w.n (U.jA Ht a) a ?_
 refine I 0 ?_
 refine w.n (U.jx 1 qP dt a a bd bd a) a ?_
 exact cH
def ao_(f:Nat)(ez eA gb:Int):M prog 331 #[f] [ai f [ez,eA,gb] 311] [] (fun m B=>m=.b (eA)∧B=[]):=by
 refine M.aM func331 a ntmps331 a fun an=>?_
 refine P apc ?_
 exact cH
def ao7(f:Nat)(ez eA gb:Int):M prog 332 #[f] [ai f [ez,eA,gb] 311] [] (fun m B=>m=.b (ez)∧B=[]):=by
 refine M.aM func332 a ntmps332 a fun an=>?_
 refine P apb ?_
 exact cH
def ao8(f:Nat)(ez eA gb:Int):M prog 283 #[f] [ai f [ez,eA,gb] 311] [] (fun m B=>m=.b (g.gd eA ez)∧B=[]):=by
 refine M.aM func283 a ntmps283 a fun an=>?_
 refine P ao_ ?_
 refine P ao7 ?_
 refine P agY ?_
 exact cH
def ao'(f:Nat)(ez eA gb:Int)(yG yt:Int):M prog 210 #[f,yG,yt] [ai f [ez,eA,gb] 311] [] (fun m B=>m=.b (g.gn (g.gd eA ez) yG yt)∧B=[]):=by
 refine M.aM func210 a ntmps210 a fun an=>?_
 refine P ao8 ?_
 exact ac8
def apa(f:Nat)(ez eA gb:Int)(s:Int):M prog 269 #[f,s] [] [ai f [ez,eA,gb] 311] (fun m B=>m=.tuple #[]∧B=[ai f [.b (g.fv ez 1),.b (g.fv eA s),.b (g.Pg gb (ab.cc s 2147483647))] 311]):=by
 refine M.aM func269 a ntmps269 a fun an=>?_
 refine I 0 ?_
 refine w.n (U.jA Ht a) a ?_
 refine I 0 ?_
 refine K.hW 10 Tryz.bE aN ?_
 refine aD 0 ?_
 refine e0.n (U.jx 0 qP dt a a bd bd a) a ?_
 refine P rC ?_
 refine aD 0 ?_
 refine e0.n (U.jx 0 qP dt a a bd bd a) a ?_
 refine aD 1 ?_
 refine K.hW 11 Tryz.bE aN ?_
 refine aD 0 ?_
 refine e0.n (U.jx 1 qP dt a a bd bd a) a ?_
 refine P rC ?_
 refine aD 0 ?_
 refine e0.n (U.jx 1 qP dt a a bd bd a) a ?_
 refine aD 1 ?_
 refine K.hW 12 Tryz.bE aN ?_
 refine aD 0 ?_
 refine e0.n (U.jx 2 qP dt a a bd bd a) a ?_
 refine P lb ?_
 refine e0.n (U.max a a) a ?_
 refine aD 0 ?_
 refine e0.n (U.jx 2 qP dt a a bd bd a) a ?_
 exact cH
def ao6(f:Nat)(ez eA gb:Int):M prog 293 #[f] [] [ai f [ez,eA,gb] 311] (fun m B=>m=.tuple #[]∧B=[ai f [.b 0,.b 0,.b 0] 311]):=by
 refine M.aM func293 a ntmps293 a fun an=>?_
 refine I 0 ?_
 refine w.n (U.pY Ht a) a ?_
 exact cH
def ao9 :M prog 132 #[] [] [] (fun m B=>∃ f,m=.n f∧B=[ai f [.b 0,.b 0,.b 0] 311]):=by
 refine M.aM func132 a ntmps132 a fun an=>?_
 exact ac1
def awp(e:Int):M prog 286 #[e] [] [] (fun m B=>m=.b (g.ka e)∧B=[]):=by
 refine M.aM func286 a ntmps286 a fun an=>?_
 refine aU ?_ ?_
 exact Sn
 refine aU ?_ ?_
 exact Sn
 exact Sn
def ZG(aG:Nat)(cA held:Int)(e:Int):M prog 287 #[aG,e] [] [ai aG [cA,held] 309] (fun m B=>m=.b e∧B=[ai aG [e,.b 1] 309]):=by
 refine M.aM func287 a ntmps287 a fun an=>?_
 exact cH
def awo(aG:Nat)(cA held:Int)(e ev:Int)(kY:-1≤cA)(gk:cA≤1):M prog 212 #[aG,e,ev] [] [ai aG [cA,held] 309] (fun m B=>m=.b (g.gD cA held e ev).1∧B=[ai aG [.b ((g.gD cA held e ev).2.1),.b ((g.gD cA held e ev).2.2)] 309]):=by
 refine M.aM func212 a ntmps212 a fun an=>?_
 refine I 0 ?_
 refine w.n (U.jA underlying167 a) a ?_
 refine P awp ?_
 refine I 2 ?_
 refine w.n (U.Ut [cA,held] [0,0] underlying309 stoodInHeld309 eqGuardType309 (aiX underlying309) a a a a) a ?_
 refine aU ?_ ?_
 refine aU ?_ ?_
 refine aF ?_
 intro fp _
 exact aO (by have oG:=(c9 fp);simp only [decide_eq_false_iff_not,decide_eq_true_eq,oR,and_true] at oG;have kp:g.gD cA held e ev=(0,cA,held):=G9;rw [kp];exact ⟨rfl,rfl⟩)
 refine P ZG ?_
 refine aF ?_
 intro fp _
 exact aO (by have oG:=(c9 fp);simp only [decide_eq_false_iff_not,decide_eq_true_eq,oR,and_true] at oG;have kp:g.gD cA held e ev=(g.ka e,g.ka e,1):=G9;rw [kp];exact ⟨rfl,rfl⟩)
 refine I 1 ?_
 intro fp
 refine w.n (U.O (U.neg a) (dz (Value.int .i64) (show IntKind.i64.wrap (0-cA)=-cA from (AN E).trans E))) a ?_
 refine aU (fun iV=>?_) (fun iV=>?_)
 refine aU ?_ ?_
 refine P ZG ?_
 refine aF ?_
 intros
 exact aO (by have oG:=(p4 fp);simp only [decide_eq_false_iff_not,decide_eq_true_eq,oR,and_true] at oG;have kp:g.gD cA held e ev=(g.ka e,g.ka e,1):=G9;rw [kp];exact ⟨rfl,rfl⟩)
 exact acb
 exact acb
def awm(aG:Nat)(cA held:Int):M prog 217 #[aG] [] [ai aG [cA,held] 309] (fun m B=>m=.tuple #[]∧B=[ai aG [.b 0,.b 0] 309]):=by
 refine M.aM func217 a ntmps217 a fun an=>?_
 refine I 0 ?_
 refine w.n (U.pY underlying167 a) a ?_
 exact cH
def awn :M prog 131 #[] [] [] (fun m B=>∃ aG,m=.n aG∧B=[ai aG [.b 0,.b 0] 309]):=by
 refine M.aM func131 a ntmps131 a fun an=>?_
 exact ac1
def aiq(y:Nat)(bm aR held:Int):M prog 118 #[y] [ai y [.bool true,bm,aR,held] 296] [] (fun m B=>m=.b aR∧B=[]):=by
 refine M.aM func118 a ntmps118 a fun an=>?_
 refine I 0 ?_
 refine w.n (U.jA Ea a) a ?_
 exact cH
def ait(y:Nat)(bm aR held:Int)(op:Bool)(jl:0≤aR)(lg:aR≤bm)(lh:bm≤7):M prog 289 #[y,.bool op] [] [ai y [.bool true,bm,aR,held] 296] (fun m B=>m=.bool (false)∧B=[ai y [.bool true,bm,aR,held] 296]):=by
 refine M.aM func289 a ntmps289 a fun an=>?_
 refine I 0 ?_
 exact LW
def air(y:Nat)(bm aR held:Int)(op:Bool)(jl:0≤aR)(lg:aR≤bm)(lh:bm≤7):M prog 290 #[y,.bool op] [] [ai y [.bool true,bm,aR,held] 296] (fun m B=>m=.bool (decide (aR≠0))∧B=[ai y [.bool true,bm,.b (if aR=0 then aR else aR-1),held] 296]):=by
 refine M.aM func290 a ntmps290 a fun an=>?_
 exact ac7
def ais(y:Nat)(bm aR held:Int)(op:Bool)(jl:0≤aR)(lg:aR≤bm)(lh:bm≤7):M prog 291 #[y,.bool op] [] [ai y [.bool true,bm,aR,held] 296] (fun m B=>m=.bool (op&&decide (aR≠bm))∧B=[ai y [.bool true,bm,.b (if op=false∨aR=bm then aR else aR+1),held] 296]):=by
 refine M.aM func291 a ntmps291 a fun an=>?_
 refine I 0 ?_
 refine K.kk Tryz.bE aN ?_
 refine aD 0 ?_
 refine aj.fz 7 a (fun G=>?_) (fun G=>?_)
 have J:op=false:=c_ G
 subst J
 refine aj.Z 10 a<|aj.qT ?_
 refine I 0 ?_
 exact LW
 have aA:op=true:=c_ G
 subst aA
 exact ac7
def ain(y:Nat)(bm aR held:Int)(op:Bool)(ev:Int)(jl:0≤aR)(lg:aR≤bm)(lh:bm≤7):M prog 213 #[y,.b 0,.bool op,ev] [] [ai y [.bool true,bm,aR,held] 296] (fun m B=>m=.bool (g.iv bm aR held 0 op ev).1∧B=[ai y [.bool true,bm,.b ((g.iv bm aR held 0 op ev).2.1),.b ((g.iv bm aR held 0 op ev).2.2)] 296]):=by
 refine M.aM func213 a ntmps213 a fun an=>?_
 refine I 0 ?_
 refine w.n (U.jA Ea a) a ?_
 refine P rC ?_
 refine aU ?_ ?_
 refine aF ?_
 intros
 exact adr
 refine I 0 ?_
 intros
 refine w.n (U.oz [(0,.func (.func 289) #[] #[]),(1,.func (.func 290) #[] #[]),(2,.func (.func 291) #[] #[])] [.func (.func 289) #[] #[],.func (.func 290) #[] #[],.func (.func 291) #[] #[]] BW HO B7 a aN) a ?_
 refine I 2 ?_
 intros
 refine w.el (U.dg (U.jx 0 BW B7 a a bd bd a)) a a ?_
 refine I 1 ?_
 refine w.oD (aq.dA call289 a a (ait y bm aR (g.fv held 1) op jl lg lh) [1] a .nil) a a ?_
 rintro _ _ ⟨_,⟨rfl,rfl⟩,rfl⟩
 refine aF ?_
 exact adr
def aio(y:Nat)(bm aR held:Int)(op:Bool)(ev:Int)(jl:0≤aR)(lg:aR≤bm)(lh:bm≤7):M prog 213 #[y,.b 1,.bool op,ev] [] [ai y [.bool true,bm,aR,held] 296] (fun m B=>m=.bool (g.iv bm aR held 1 op ev).1∧B=[ai y [.bool true,bm,.b ((g.iv bm aR held 1 op ev).2.1),.b ((g.iv bm aR held 1 op ev).2.2)] 296]):=by
 refine M.aM func213 a ntmps213 a fun an=>?_
 refine I 0 ?_
 refine w.n (U.jA Ea a) a ?_
 refine P rC ?_
 refine aU ?_ ?_
 refine aF ?_
 intros
 exact aO (by have kp:g.iv bm aR held 1 op ev=(false,aR,g.fv held 1):=BC;rw [kp];exact ⟨rfl,rfl⟩)
 refine I 0 ?_
 intros
 refine w.n (U.oz [(0,.func (.func 289) #[] #[]),(1,.func (.func 290) #[] #[]),(2,.func (.func 291) #[] #[])] [.func (.func 289) #[] #[],.func (.func 290) #[] #[],.func (.func 291) #[] #[]] BW HO B7 a aN) a ?_
 refine I 2 ?_
 intros
 refine w.el (U.dg (U.jx 1 BW B7 a a bd bd a)) a a ?_
 refine I 1 ?_
 refine w.oD (aq.dA call290 a a (air y bm aR (g.fv held 1) op jl lg lh) [1] a .nil) a a ?_
 rintro _ _ ⟨_,⟨rfl,rfl⟩,rfl⟩
 refine I 0 ?_
 refine K.cond a (fun bT=>?_) (fun bT=>?_)
 have c7:(decide (aR≠0))=false:=c_ bT
 have j9:=fa c7
 refine aF ?_
 exact aO (by have kp:g.iv bm aR held 1 op ev=(false,if aR=0 then aR else aR-1,g.fv held 1):=BC;rw [kp];exact ⟨rfl,rfl⟩)
 have dL:(decide (aR≠0))=true:=c_ bT
 have s6:=dp dL
 refine aF ?_
 exact aO (by have kp:g.iv bm aR held 1 op ev=(true,if aR=0 then aR else aR-1,0):=BC;rw [kp];exact ⟨rfl,rfl⟩)
def aip(y:Nat)(bm aR held:Int)(op:Bool)(ev:Int)(jl:0≤aR)(lg:aR≤bm)(lh:bm≤7):M prog 213 #[y,.b 2,.bool op,ev] [] [ai y [.bool true,bm,aR,held] 296] (fun m B=>m=.bool (g.iv bm aR held 2 op ev).1∧B=[ai y [.bool true,bm,.b ((g.iv bm aR held 2 op ev).2.1),.b ((g.iv bm aR held 2 op ev).2.2)] 296]):=by
 refine M.aM func213 a ntmps213 a fun an=>?_
 refine I 0 ?_
 refine w.n (U.jA Ea a) a ?_
 refine P rC ?_
 refine aU ?_ ?_
 refine aF ?_
 intros
 exact aO (by have kp:g.iv bm aR held 2 op ev=(false,aR,g.fv held 1):=BC;rw [kp];exact ⟨rfl,rfl⟩)
 refine I 0 ?_
 intros
 refine w.n (U.oz [(0,.func (.func 289) #[] #[]),(1,.func (.func 290) #[] #[]),(2,.func (.func 291) #[] #[])] [.func (.func 289) #[] #[],.func (.func 290) #[] #[],.func (.func 291) #[] #[]] BW HO B7 a aN) a ?_
 refine I 2 ?_
 intros
 refine w.el (U.dg (U.jx 2 BW B7 a a bd bd a)) a a ?_
 refine I 1 ?_
 refine w.oD (aq.dA call291 a a (ais y bm aR (g.fv held 1) op jl lg lh) [1] a .nil) a a ?_
 rintro _ _ ⟨_,⟨rfl,rfl⟩,rfl⟩
 refine I 0 ?_
 refine K.cond a (fun bT=>?_) (fun bT=>?_)
 have c7:(op&&decide (aR≠bm))=false:=c_ bT
 refine aF ?_
 exact aO (by have kp:g.iv bm aR held 2 op ev=(false,if op=false∨aR=bm then aR else aR+1,g.fv held 1):=BC;rw [kp];exact ⟨rfl,rfl⟩)
 have gi:(op&&decide (aR≠bm))=true:=c_ bT
 refine aF ?_
 exact aO (by have kp:g.iv bm aR held 2 op ev=(true,if op=false∨aR=bm then aR else aR+1,0):=BC;rw [kp];exact ⟨rfl,rfl⟩)
def Ud(y:Nat)(bm aR held:Int):M prog 218 #[y] [] [ai y [.bool true,bm,aR,held] 296] (fun m B=>m=.tuple #[]∧B=[ai y [.bool true,bm,bm,.b 32] 296]):=by
 refine M.aM func218 a ntmps218 a fun an=>?_
 refine I 0 ?_
 refine w.n (U.pY Ea a) a ?_
 exact cH
def ail(bm:Int)(jl:0≤bm)(lh:bm≤7):M prog 129 #[bm] [] [] (fun m B=>∃ y,m=.tuple #[.n y,.b 0]∧B=[ai y [.bool true,bm,bm,.b 32] 296]):=by
 refine M.aM func129 a ntmps129 a fun an=>?_
 refine I 0 ?_
 refine w.kK 7 a (p4 E) ?_
 refine I 0 ?_
 refine K.fZ a (p4 E) ?_
 refine I 2 ?_
 intro b9
 refine P Ud ?_
 refine aF ?_
 exact aO ⟨b9,a,a⟩
def VZ(c:Nat)(ap:Int)(S:List Int)(e:Int):M prog 315 #[c,e] [ai c ([Value.b ap]++S.map (Value.int .i64)) 302] [] (fun m B=>m=.bool (g.nd ap e)∧B=[]):=by
 refine M.aM func315 a ntmps315 a fun an=>?_
 refine I 0 ?_
 refine w.n (U.pY Hs a) a ?_
 refine aU (fun eC=>?_) (fun eC=>?_)
 exact acH
 exact acH
def akK(c:Nat)(ap:Int)(S:List Int)(e s:Int)(aw:S.length=128)(gB:0≤ap)(hm:ap≤128):M prog 261 #[c,e,s] [] [ai c ([Value.b ap]++S.map (Value.int .i64)) 302] (fun m B=>m=.bool (g.nd ap e)∧B=[ai c ([Value.b ap]++(g.sv ap S e s).map (Value.int .i64)) 302]):=by
 refine M.aM func261 a ntmps261 a fun an=>?_
 refine P VZ ?_
 refine I 0 ?_
 refine K.cond a (fun J=>?_) (fun J=>?_)
 have aA:(g.nd ap e)=false:=c_ J
 refine aF ?_
 exact aO ⟨(by simp [ed, *]),(by rw [g.age bO])⟩
 have aZ:(g.nd ap e)=true:=c_ J
 refine I 0 ?_
 refine K.hW 13 Tryz.bE aN ?_
 refine aD 0 ?_
 obtain ⟨dZ,jj⟩:=c4 (f:=S) (b:=(e).toNat) v6
 refine e0.n (U.oJ Er dt a a v6 v6) a<|e0.A (aV.hh a (eZ.ai 0 a) (v:=0) (off:=1+(e).toNat) E (fr.one ds (x3 a jj))) a ?_
 refine P rC ?_
 refine aD 0 ?_
 refine e0.n (U.oJ Er dt a a v6 v6) a ?_
 refine aD 0 ?_
 refine w.cq (aq.store 0 (ae:=[.b (g.fv dZ s)]) ([Value.b ap]++(S.set (e).toNat (g.fv dZ s)).map (Value.int .i64)) a a a dt a a a (Qd (z:=(Value.int .i64)) (ao:=[Value.b ap]) (s:=0+1) (e:=g.fv dZ s) (f:=S) (b:=(e).toNat) a v6) (N7 (z:=(Value.int .i64)) (ao:=[Value.b ap]) (s:=0+1) (f:=S) (b:=(e).toNat) a v6)) ?_
 rintro _ _ rfl
 refine aF ?_
 exact aO ⟨(by simp [ed, *]),(by rw [g.agf bO bO])⟩
def akN(c:Nat)(ap:Int)(S:List Int)(e:Int)(aw:S.length=128)(gB:0≤ap)(hm:ap≤128):M prog 178 #[c,e] [] [ai c ([Value.b ap]++S.map (Value.int .i64)) 302] (fun m B=>m=.bool (g.nd ap e)∧B=[ai c ([Value.b ap]++(g.sv ap S e 1).map (Value.int .i64)) 302]):=by
 refine M.aM func178 a ntmps178 a fun an=>?_
 refine P akK ?_
 exact cH
def akO(c:Nat)(ap:Int)(S:List Int)(e:Int)(aw:S.length=128)(gB:0≤ap)(hm:ap≤128):M prog 388 #[c,e] [ai c ([Value.b ap]++S.map (Value.int .i64)) 302] [] (fun m B=>m=.b (g.yI ap S e)∧B=[]):=by
 refine M.aM func388 a ntmps388 a fun an=>?_
 refine P VZ ?_
 refine I 0 ?_
 refine K.cond a (fun J=>?_) (fun J=>?_)
 have aA:(g.nd ap e)=false:=c_ J
 refine aF ?_
 exact aO ⟨(by rw [g.aps bO];rfl),a⟩
 have aZ:(g.nd ap e)=true:=c_ J
 refine I 0 ?_
 obtain ⟨dZ,jj⟩:=c4 (f:=S) (b:=(e).toNat) v6
 refine w.n (U.oJ Er dt a a v6 v6) a<|w.A (aV.hh a (eZ.lF 0 a) (v:=0) (off:=1+(e).toNat) E (fr.one ds (x3 a jj))) a ?_
 refine aF ?_
 exact aO ⟨(by rw [g.Xf bO bO];rfl),a⟩
def akM(c:Nat)(ap:Int)(S:List Int)(aw:S.length=128):M prog 292 #[c] [] [ai c ([Value.b ap]++S.map (Value.int .i64)) 302] (fun m B=>m=.tuple #[]∧B=[ai c ([Value.b ap]++(List.replicate 128 (0:Int)).map (Value.int .i64)) 302]):=by
 refine M.aM func292 a ntmps292 a fun an=>?_
 refine I 0 ?_
 refine w.n (U.pY Hs a) a ?_
 refine I 0 ?_
 refine w.n (U.oz [] [.b 0,.b 0,.b 0,.b 0,.b 0,.b 0,.b 0,.b 0,.b 0,.b 0,.b 0,.b 0,.b 0,.b 0,.b 0,.b 0,.b 0,.b 0,.b 0,.b 0,.b 0,.b 0,.b 0,.b 0,.b 0,.b 0,.b 0,.b 0,.b 0,.b 0,.b 0,.b 0,.b 0,.b 0,.b 0,.b 0,.b 0,.b 0,.b 0,.b 0,.b 0,.b 0,.b 0,.b 0,.b 0,.b 0,.b 0,.b 0,.b 0,.b 0,.b 0,.b 0,.b 0,.b 0,.b 0,.b 0,.b 0,.b 0,.b 0,.b 0,.b 0,.b 0,.b 0,.b 0,.b 0,.b 0,.b 0,.b 0,.b 0,.b 0,.b 0,.b 0,.b 0,.b 0,.b 0,.b 0,.b 0,.b 0,.b 0,.b 0,.b 0,.b 0,.b 0,.b 0,.b 0,.b 0,.b 0,.b 0,.b 0,.b 0,.b 0,.b 0,.b 0,.b 0,.b 0,.b 0,.b 0,.b 0,.b 0,.b 0,.b 0,.b 0,.b 0,.b 0,.b 0,.b 0,.b 0,.b 0,.b 0,.b 0,.b 0,.b 0,.b 0,.b 0,.b 0,.b 0,.b 0,.b 0,.b 0,.b 0,.b 0,.b 0,.b 0,.b 0,.b 0,.b 0,.b 0,.b 0] Er zeroValue300 dt a aN) a ?_
 refine I 0 ?_
 refine w.cq (aq.store 0 (ae:=List.replicate 128 ((Value.int .i64) (0:Int))) ([Value.b ap]++(List.replicate 128 (0:Int)).map (Value.int .i64)) a a a sizeOf300 a a a (Zh (z:=(Value.int .i64)) (ao:=[Value.b ap]) (s:=0+1) a aw) (by rw [aar,eh,fc,aw];simp)) ?_
 rintro _ _ rfl
 exact cH
def akP(ap:Int)(gB:1≤ap)(hm:ap≤128):M prog 128 #[ap] [] [] (fun m B=>∃ c,m=.tuple #[.n c,.b 0]∧B=[ai c ([Value.b ap]++(List.replicate 128 (0:Int)).map (Value.int .i64)) 302]):=by
 refine M.aM func128 a ntmps128 a fun an=>?_
 exact adE
def Gh(id aE O am a1 bM x seq:Int):M prog 84 #[.agg #[id,aE,O,am,a1,bM],x,seq] [] [] (fun m B=>m=.agg #[id,am,aE,a1,bM,x,seq]∧B=[]):=by
 refine M.aM func84 a ntmps84 a fun an=>?_
 exact cH
def aue(id aE O am a1 bM code aa aP aR:Int):M prog 181 #[.agg #[id,aE,O,am,a1,bM],code,aa,aP,aR] [] [] (fun m B=>m=.agg #[id,O,aE,code,aa,aP,aR]∧B=[]):=by
 refine M.aM func181 a ntmps181 a fun an=>?_
 exact cH
def A9(s l p:Int):M prog 197 #[s,l,p] [] [] (fun m B=>m=.bool (g.hi s l p)∧B=[]):=by
 refine M.aM func197 a ntmps197 a fun an=>?_
 refine aU (fun eC=>?_) (fun eC=>?_)
 exact acF
 exact acF
def avl(s d:Int):M prog 355 #[s,d] [] [] (fun m B=>m=.b (g.part s d)∧B=[]):=by
 have:=g.JR (left:=s) (jr:=d)
 refine M.aM func355 a ntmps355 a fun an=>?_
 refine P lb ?_
 refine P lb ?_
 refine aD 1 ?_
 refine w.n (U.xa a a aa7 E aa7) a ?_
 exact cH
def avj(s d:Int):M prog 356 #[s,d] [] [] (fun m B=>m=.b (g.pe s d)∧B=[]):=by
 refine M.aM func356 a ntmps356 a fun an=>?_
 refine P lb ?_
 refine w.n (U.xa a a aa3 E aa3) a ?_
 refine P lb ?_
 refine w.n (U.min a a) a ?_
 exact cH
def avf(x a1 j dr:Int):M prog 322 #[x,a1,j,dr] [] [] (fun m B=>m=.tuple #[.b (g.oB x a1 j dr).1,.b (g.oB x a1 j dr).2.1,.bool (g.oB x a1 j dr).2.2]∧B=[]):=by
 refine M.aM func322 a ntmps322 a fun an=>?_
 refine P H3 ?_
 refine P avl ?_
 refine P avj ?_
 refine aU ?_ ?_
 exact acw
 refine P TA ?_
 exact acw
def Ch(i aG y c f:Nat)(ap bm cb bJ bR b4 bY b_ cy aa aP:Int):M prog 173 #[i] [ai i [aG,y,ap,bm,cb,bJ,bR,b4,bY,b_,cy,c,f,aa,aP] 172] [] (fun m B=>m=.bool true∧B=[]):=by
 refine M.aM func173 a ntmps173 a fun an=>?_
 refine I 0 ?_
 refine w.n (U.pY af1 a) a ?_
 refine I 1 ?_
 refine w.el (U.dg (U.pY Hs a)) a a ?_
 exact cH
def T8(i aG y c f:Nat)(ap bm cb bJ bR b4 bY b_ cy aa aP:Int):M prog 44 #[i] [ai i [aG,y,ap,bm,cb,bJ,bR,b4,bY,b_,cy,c,f,aa,aP] 172] [] (fun m B=>m=.b aa∧B=[]):=by
 refine M.aM func44 a ntmps44 a fun an=>?_
 exact acL
def ahW(i aG y c f:Nat)(ap bm cb bJ bR b4 bY b_ cy aa aP:Int):M prog 43 #[i] [ai i [aG,y,ap,bm,cb,bJ,bR,b4,bY,b_,cy,c,f,aa,aP] 172] [] (fun m B=>m=.b aP∧B=[]):=by
 refine M.aM func43 a ntmps43 a fun an=>?_
 exact acL
def MW(i aG y c f:Nat)(ap bm cb bJ bR b4 bY b_ cy aa aP:Int)(M_ aR gh:Int):M prog 45 #[i] [ai i [aG,y,ap,bm,cb,bJ,bR,b4,bY,b_,cy,c,f,aa,aP] 172,ai y [.bool true,M_,aR,gh] 296] [] (fun m B=>m=.b aR∧B=[]):=by
 refine M.aM func45 a ntmps45 a fun an=>?_
 refine I 0 ?_
 refine w.n (U.jA af1 a) a ?_
 refine P aiq ?_
 exact cH
def ahX(i aG y c f:Nat)(ap bm cb bJ bR b4 bY b_ cy aa aP:Int)(e:Int):M prog 179 #[i,e] [ai i [aG,y,ap,bm,cb,bJ,bR,b4,bY,b_,cy,c,f,aa,aP] 172] [] (fun m B=>m=.bool (ab.r6 e aa)∧B=[]):=by
 refine M.aM func179 a ntmps179 a fun an=>?_
 refine P T8 ?_
 refine P Xd ?_
 exact cH
def ah0(i aG y c f:Nat)(ap bm cb bJ bR b4 bY b_ cy aa aP:Int)(S:List Int)(e:Int)(aw:S.length=128)(gB:0≤ap)(hm:ap≤128):M prog 81 #[i,e] [] [ai i [aG,y,ap,bm,cb,bJ,bR,b4,bY,b_,cy,c,f,aa,aP] 172,ai c ([Value.b ap]++S.map (Value.int .i64)) 302] (fun m B=>m=.bool (g.nd ap e)∧B=[ai i [aG,y,ap,bm,cb,bJ,bR,b4,bY,b_,cy,c,f,aa,aP] 172,ai c ([Value.b ap]++(g.sv ap S e 1).map (Value.int .i64)) 302]):=by
 refine M.aM func81 a ntmps81 a fun an=>?_
 refine P Ch ?_
 refine P akN ?_
 exact cH
def ah1(i aG y c f:Nat)(ap bm cb bJ bR b4 bY b_ cy aa aP:Int)(ez eA gb e:Int):M prog 188 #[i,e] [] [ai i [aG,y,ap,bm,cb,bJ,bR,b4,bY,b_,cy,c,f,aa,aP] 172,ai f [ez,eA,gb] 311] (fun m B=>m=.tuple #[]∧B=[ai i [aG,y,ap,bm,cb,bJ,bR,b4,bY,b_,cy,c,f,aa,aP] 172,ai f [.b (g.fv ez 1),.b (g.fv eA e),.b (g.Pg gb (ab.cc e 2147483647))] 311]):=by
 refine M.aM func188 a ntmps188 a fun an=>?_
 refine P Ch ?_
 refine P apa ?_
 exact cH
def MX(i aG y c f:Nat)(ap bm cb bJ bR b4 bY b_ cy aa aP:Int)(ne:0≤aP)(nz:aP≤4294967295):M prog 216 #[i] [] [ai i [aG,y,ap,bm,cb,bJ,bR,b4,bY,b_,cy,c,f,aa,aP] 172] (fun m B=>m=.tuple #[]∧B=[ai i [aG,y,ap,bm,cb,bJ,bR,b4,bY,b_,cy,c,f,aa,.b (ab.cc (aP+1) 4294967295)] 172]):=by
 refine M.aM func216 a ntmps216 a fun an=>?_
 refine P lb ?_
 exact cH
def T9(i aG y c f:Nat)(ap bm cb bJ bR b4 bY b_ cy aa aP:Int)(S:List Int)(ez eA gb:Int)(aw:S.length=128):M prog 214 #[i] [] [ai i [aG,y,ap,bm,cb,bJ,bR,b4,bY,b_,cy,c,f,aa,aP] 172,ai c ([Value.b ap]++S.map (Value.int .i64)) 302,ai f [ez,eA,gb] 311] (fun m B=>m=.tuple #[]∧B=[ai i [aG,y,ap,bm,cb,bJ,bR,b4,bY,b_,cy,c,f,aa,aP] 172,ai c ([Value.b ap]++(List.replicate 128 (0:Int)).map (Value.int .i64)) 302,ai f [.b 0,.b 0,.b 0] 311]):=by
 refine M.aM func214 a ntmps214 a fun an=>?_
 refine P akM ?_
 refine P ao6 ?_
 exact cH
def ahZ(i aG y c f:Nat)(ap bm cb bJ bR b4 bY b_ cy aa aP:Int)(cA held aR gh ez eA gb:Int)(S:List Int)(aw:S.length=128)(ne:0≤aP)(nz:aP≤4294967295):M prog 113 #[i] [] [ai i [aG,y,ap,bm,cb,bJ,bR,b4,bY,b_,cy,c,f,aa,aP] 172,ai aG [cA,held] 309,ai y [.bool true,bm,aR,gh] 296,ai c ([Value.b ap]++S.map (Value.int .i64)) 302,ai f [ez,eA,gb] 311] (fun m B=>m=.tuple #[]∧B=[ai i [aG,y,ap,bm,cb,bJ,bR,b4,bY,b_,cy,c,f,ap,.b (ab.cc (aP+1) 4294967295)] 172,ai aG [.b 0,.b 0] 309,ai y [.bool true,bm,bm,.b 32] 296,ai c ([Value.b ap]++(List.replicate 128 (0:Int)).map (Value.int .i64)) 302,ai f [.b 0,.b 0,.b 0] 311]):=by
 refine M.aM func113 a ntmps113 a fun an=>?_
 refine P Ch ?_
 refine P MX ?_
 refine P awm ?_
 refine P Ud ?_
 refine P T9 ?_
 exact cH
def avT(ap:Int)(S:List Int)(ae:List (List Value))(e:List Value):Prop:=e=[.b (ae.length:Int),.b (g.it S ae.length)]∧(ae.length:Int)≤ap
def avS(ap:Int)(ae:List (List Value)):Prop:=ap < (ae.length:Int)
def anK(j7 c:Nat)(ap:Int)(S:List Int)(aw:S.length=128)(gB:0≤ap)(hm:ap≤128):sl prog 387 #[j7] [ai j7 [c] 169,ai c ([Value.b ap]++S.map (Value.int .i64)) 302] (avT ap S) (avS ap):=by
  refine sl.enter (nj:=[j7]) (body:=_) 25 func387 rfl ntmps387 rfl kf ?_
  intro f Pm bo N dH cJ hR hk aF aJ ii fM az bB fS dI
  refine ⟨ai j7 [c] 169 :: ai c ([Value.b ap]++S.map (Value.int .i64)) 302 :: aF,fun ar bI=>fM ar zh,?_⟩
  refine bl.seq ?_
  refine bl.seq ?_
  refine bl.region ?_
  refine bX.A (aV.hh rfl (eZ.lF 0 rfl) (v:=0) (off:=0) rfl (fr.one isAgg169 rfl)) rfl ?_
  refine bX.n (U.jA underlying169 rfl) rfl ?_
  refine bX.nil ?_
  refine bl.fZ rfl rfl ?_
  refine bl.skip ?_
  refine bl.seq ?_
  refine bl.region ?_
  refine bX.n (U.assign rfl) rfl ?_
  refine bX.nil ?_
  refine bl.seq ?_
  refine bl.region ?_
  refine bX.n (U.assign rfl) rfl ?_
  refine bX.nil ?_
  refine bl.block ?_
  refine bl.loop (bo:=Int×List (List Value)×bo) (fun c3=>dH c3.2.1 c3.2.2∧(c3.2.1.length:Int)≤ap+1∧((c3.2.1.length:Int)≤ap→c3.1=g.it S c3.2.1.length)) (fun c3=>[(0,.func (.yield f) #[] #[]),(1,.n j7),(3,.b c3.1),(4,.b (c3.2.1.length:Int))]) (fun c3=>cJ c3.2.2) (fun c3=>(ap+1-(c3.2.1.length:Int)).toNat) ⟨0,[],ii⟩ ⟨bB,by simp;omega,fun _=>rfl⟩ ⟨rfl,rfl,rfl,rfl,trivial⟩ (List.range (cJ ii).length) tp (xe _) ?_
  rintro ⟨H,ae,F⟩ ⟨kI,R,av⟩
  dsimp only at kI R av
  refine bl.seq ?_
  refine bl.seq ?_
  refine bl.region ?_
  refine bX.n (U.move rfl) rfl ?_
  refine bX.A (aV.hh rfl (eZ.lF 0 rfl) (v:=0) (off:=0) rfl (fr.one isAgg169 rfl)) rfl ?_
  refine bX.n (U.nilCheck rfl) rfl ?_
  refine bX.n (U.fieldAddr runUnderlying302 rfl sizeOf3 rfl rfl rfl) rfl ?_
  refine bX.A (aV.hh rfl (eZ.lF 1 rfl) (v:=0) (off:=0) rfl (fr.one isAgg3 rfl)) rfl ?_
  refine bX.n (U.leq rfl rfl) rfl ?_
  refine bX.nil ?_
  refine bl.cond rfl (fun au=>?_) (fun au=>?_)
  · have n:(ae.length:Int)≤ap:=dp au
    have al1:=av n
    subst al1
    refine bl.skip ?_
    refine bl.seq ?_
    refine bl.block ?_
    refine bl.seq ?_
    refine bl.seq ?_
    refine bl.region ?_
    refine bX.n (U.move rfl) rfl ?_
    refine bX.n (U.move rfl) rfl ?_
    refine bX.n (U.move rfl) rfl ?_
    refine bX.aal (f:=f) (ae:=[.b (ae.length:Int),.b (g.it S ae.length)]) [] (cJ F) (bN:=fun qi B=>match qi with|true=>∃ hj,dH (ae++[[.b (ae.length:Int),.b (g.it S ae.length)]]) hj∧B=cJ hj|false=>∃ aI,hR aI∧B=hk aI) rfl rfl rfl rfl rfl (fun ok eS jw lf=>?_) rfl ?_
    · have fw:=cM.Dj ok jw
      refine YieldAt.xm (az _ F _ eS kI ⟨rfl,n⟩ (fun ar bI=>fw ar zh) lf) ?_
      rintro r dY (⟨rfl,hj,jM,eY⟩|⟨rfl,aI,ce,eY⟩)
      · exact ⟨true,_,rfl,⟨hj,jM,rfl⟩,eY⟩
      · exact ⟨false,_,rfl,⟨aI,ce,rfl⟩,eY⟩
    · rintro qi B dj
      cases qi
      · obtain ⟨aI,ce,rfl⟩:=dj
        refine bX.n (U.not rfl) rfl ?_
        refine bX.nil ?_
        refine bl.lN rfl rfl ?_
        exact bl.ret fun ok l j V W=>dI _ _ _ (.inr rfl) V.defers (.inr ⟨aI,ce,by simpa using W⟩)
      · obtain ⟨hj,jM,rfl⟩:=dj
        refine bX.n (U.not rfl) rfl ?_
        refine bX.nil ?_
        refine bl.fZ rfl rfl ?_
        refine bl.skip ?_
        refine bl.region ?_
        refine bX.n (U.move rfl) rfl ?_
        refine bX.A (aV.hh rfl (eZ.lF 0 rfl) (v:=0) (off:=0) rfl (fr.one isAgg169 rfl)) rfl ?_
        refine bX.n (U.move rfl) rfl ?_
        refine bX.f (aq.TS call388 (akO c ap S (ae.length:Int) aw gB hm) (fun m B ⟨_,J⟩=>J) rfl (.b0 1 rfl .nil)) rfl ?_
        rintro _ _ ⟨⟨_,rfl,rfl⟩,rfl⟩
        refine bX.f (aq.TS call288 (rC (g.it S ae.length) (g.yI ap S (ae.length:Int))) (fun m B ⟨_,J⟩=>J) rfl .nil) rfl ?_
        rintro _ _ ⟨⟨_,rfl,rfl⟩,rfl⟩
        refine bX.n (U.assign rfl) rfl ?_
        refine bX.nil ?_
        refine bl.cE ?_
        refine bl.region ?_
        refine bX.n (U.move rfl) rfl ?_
        refine bX.n (U.hJ rfl rfl kR) rfl ?_
        refine bX.n (U.assign rfl) rfl ?_
        refine bX.nil ?_
        have gI:(ae++[[Value.b (ae.length:Int),.b (g.it S ae.length)]]).length=ae.length+1:=by simp
        refine bl.gW (g.fv (g.it S ae.length) (g.yI ap S (ae.length:Int)),ae++[[.b (ae.length:Int),.b (g.it S ae.length)]],hj) ⟨jM,by rw [gI];omega,fun dx=>by rw [gI] at dx ⊢;exact g.ahb aw hm E⟩ DJ ⟨rfl,rfl,rfl,hM DJ,trivial⟩ (List.range ([]++cJ hj).length) tp (xe _)
  · have n:¬(ae.length:Int)≤ap:=fa au
    refine bl.exit _ rfl ?_
    exact bl.done fun ok l j V W=>dI _ _ _ (.inl rfl) V.defers (.inl ⟨ae,F,(show ap < (ae.length:Int) from by omega),kI,W⟩)
def akQ(c:Nat):M prog 373 #[c] [] [] (fun m B=>∃ j7,m=.func (.func 387) #[] #[.n j7]∧B=[ai j7 [c] 169]):=by
 refine M.aM func373 a ntmps373 a fun an=>?_
 refine I 1 ?_
 intro b9
 exact ab9
def CG(c:Nat)(ap:Int)(S:List Int)(p3:Int)(aw:S.length=128)(gB:0≤ap)(hm:ap≤128):M prog 334 #[c,p3] [ai c ([Value.b ap]++S.map (Value.int .i64)) 302] [] (fun m B=>m=.b (g.iu ap S p3)∧B=[]):=by
 refine M.Ic (args:=[c,p3]) (body:=_) 17 func334 rfl ntmps334 rfl ?_
 intro an
 refine bl.seq ?_
 refine bl.region ?_
 refine bX.f (aq.box [p3] rfl rfl) rfl ?_
 rintro _ _ ⟨b9,rfl,rfl⟩
 refine bX.n (U.assign rfl) rfl ?_
 refine bX.nil ?_
 refine bl.seq ?_
 refine bl.region ?_
 refine bX.f (aq.alloc [.b 0] Ls rfl) rfl ?_
 rintro _ _ ⟨cS,rfl,rfl⟩
 refine bX.cq (aq.store 0 (ae:=[.b 0]) [.b 0] rfl rfl rfl G5 rfl rfl rfl rfl rfl) ?_
 rintro _ _ rfl
 refine bX.nil ?_
 refine bl.seq ?_
 refine bl.seq ?_
 refine bl.region ?_
 refine bX.n (U.move rfl) rfl ?_
 refine bX.f (aq.call [c] (by exact call373) rfl (akQ c) [] [0,1] bd rfl [ai cS [.b 0] 3,ai b9 [p3] 3] rfl eI.nil) rfl ?_
 rintro _ _ ⟨_,⟨dE,rfl,rfl⟩,rfl⟩
 refine bX.nil ?_
 refine bl.block ?_
 refine bl.Kz [(3,.n b9),(4,.b 0),(5,.n cS),(9,.func (.func 387) #[] #[dE])] ⟨rfl,rfl,rfl,rfl,trivial⟩ ?_
 refine bl.atA (f':=387) (bo:=Int) (N:=Int) (fun ae c3=>c3=g.w2 S ae.length∧((ae.length:Int)≤p3+1∨ae.length=0)∧(ae.length:Int)≤ap+1) (fun c3=>[ai b9 [p3] 3,ai cS [c3] 3]) (fun e c3=>e=.exit 0∧(c3=g.iu ap S p3)) (fun c3=>[ai b9 [p3] 3,ai cS [c3] 3]) rfl rfl (fun _ _=>by rfl) (anK dE c ap S aw gB hm) (fun ae e nC=>by obtain ⟨rfl,_⟩:=nC;rfl) rfl 0 ⟨rfl,.inr rfl,by simp;omega⟩ [2,1] [0] bd rfl rfl (fun ar bI=>by simp only [fb,oq,or_false] at bI;rcases bI with rfl|rfl;exact .inr (by simp [LK.dB]);exact .inl oU) (fun eS tF FH D2 Yv k4 s b' NM Vj FD q7=>?_) (fun FH D2 yY k4 s Fe FD=>?_) (fun FH D2 yY b' aI FD=>?_)
 ·
  obtain ⟨rfl,aAB⟩:=q7
  have ko:s=g.w2 S k4.length∧((k4.length:Int)≤p3+1∨k4.length=0)∧(k4.length:Int)≤ap+1:=FD
  show bl _ _ _ ([(11,.b (g.it S k4.length)),(10,.b (k4.length:Int))]++[(3,.n b9),(4,.b 0),(5,.n cS),(9,.func (.func 387) #[] #[dE])]) [cE FH (.loop (Yv .ready none)),cE D2 (.deferred (some [])),ai b9 [p3] 3,ai cS [s] 3]
  refine bl.seq ?_
  refine bl.region ?_
  refine bX.n (U.assign rfl) rfl ?_
  refine bX.nil ?_
  refine bl.region ?_
  refine bX.n (U.assign rfl) rfl ?_
  refine bX.nil ?_
  refine bl.begin (NM _ _) ?_
  refine bl.block ?_
  refine bl.seq ?_
  refine bl.seq ?_
  refine bl.region ?_
  refine bX.n (U.move rfl) rfl ?_
  refine bX.A (aV.hh rfl (eZ.ai 2 rfl) (v:=0) (off:=0) rfl (fr.one isAgg3 rfl)) rfl ?_
  refine bX.n (U.gtr rfl rfl) rfl ?_
  refine bX.nil ?_
  refine bl.cond rfl (fun gi=>?_) (fun gi=>?_)
  ·
   have kM:=dp gi
   exact mB.ahd s (show (Code.exit 0=.exit 0)∧(s=g.iu ap S p3) from ⟨rfl,(by rw [ko.1];exact g.ao1 E ko.2.1 ko.2.2)⟩) rfl rfl [0,1,2,3] bd rfl (fun _=>Vj .ready none .done _)
  ·
   have s6:=fa gi
   refine bl.skip ?_
   refine bl.region ?_
   refine bX.n (U.move rfl) rfl ?_
   refine bX.cq (aq.store 3 (ae:=[.b (g.it S k4.length)]) [.b (g.it S k4.length)] rfl rfl rfl G5 rfl rfl rfl rfl rfl) ?_
   rintro _ _ rfl
   refine bX.nil ?_
   refine bl.cE ?_
   exact mB.Ju (Z:={ Yv .ready none with state:=.busy }) (g.it S k4.length) (show (g.it S k4.length)=g.w2 S (k4++[[Value.b (k4.length:Int),Value.b (g.it S k4.length)]]).length∧(((k4++[[Value.b (k4.length:Int),Value.b (g.it S k4.length)]]).length:Int)≤p3+1∨(k4++[[Value.b (k4.length:Int),Value.b (g.it S k4.length)]]).length=0)∧((k4++[[Value.b (k4.length:Int),Value.b (g.it S k4.length)]]).length:Int)≤ap+1 from ⟨(by unfold g.w2;simp only [eh,e6,fq];rw [be E];rfl),.inl GY,GY⟩) rfl [0,1,2,3] bd rfl (Vj .ready none .ready none)
 ·
  have ko:s=g.w2 S k4.length∧((k4.length:Int)≤p3+1∨k4.length=0)∧(k4.length:Int)≤ap+1:=FD
  have ko:=ko.1.trans (g.ao0 Fe ko.2.1 ko.2.2 gB)
  show bl _ _ _ [(3,.n b9),(4,.b 0),(5,.n cS),(9,.func (.func 387) #[] #[dE])] [cE FH (.loop yY),cE D2 (.deferred (some [])),ai b9 [p3] 3,ai cS [s] 3]
  refine bl.cE ?_
  exact adl
 ·
  obtain ⟨rfl,ko⟩:=FD
  show bl _ _ _ [(3,.n b9),(4,.b 0),(5,.n cS),(9,.func (.func 387) #[] #[dE])] [cE FH (.loop yY),cE D2 (.deferred (some [])),ai b9 [p3] 3,ai cS [aI] 3]
  refine bl.exit _ rfl ?_
  exact adl
def Oj(c:Nat)(ap:Int)(S:List Int)(aw:S.length=128)(gB:0≤ap)(hm:ap≤128):M prog 336 #[c] [ai c ([Value.b ap]++S.map (Value.int .i64)) 302] [] (fun m B=>m=.b (g.iu ap S 128)∧B=[]):=by
 refine M.aM func336 a ntmps336 a fun an=>?_
 refine P CG ?_
 have E7:=g.wD (ap:=ap) (S:=S) (e:=128)
 exact cH
def ag5(l p:Int)(G:0≤l∧l≤2147483647)(J:0≤p∧p≤2147483647):M prog 374 #[l,p] [] [] (fun m B=>m=.b ((l*p+100-1) / 100)∧B=[]):=by
 have bh:=g.yK G J
 refine M.aM func374 a ntmps374 a fun an=>?_
 refine aD 3 ?_
 refine w.n (U.xa a a E E E) a ?_
 exact cH
def ag2(l p:Int):M prog 226 #[l,p,.func (.func 374) #[] #[]] [] [] (fun m B=>m=.b (g.pX l p)∧B=[]):=by
 refine M.aM func226 a ntmps226 a fun an=>?_
 refine P lb ?_
 refine P lb ?_
 refine w.f (aq.dA call374 a a (ag5 (ab.cc l 2147483647) (ab.cc p 2147483647) (ab.gP _ bd) (ab.gP _ bd)) [] a .nil) a ?_
 exact He
def H4(l p:Int):M prog 335 #[l,p] [] [] (fun m B=>m=.b (g.pX l (ab.cc p 100))∧B=[]):=by
 refine M.aM func335 a ntmps335 a fun an=>?_
 refine P lb ?_
 refine P ag2 ?_
 exact cH
def asG(O bS cb bJ bR b4 bY b_ cy e:Int):M prog 99 #[.agg #[O,bS,cb,bJ,bR,b4,bY,b_,cy],e] [] [] (fun m B=>m=.bool (decide (e < bS))∧B=[]):=by
 refine M.aM func99 a ntmps99 a fun an=>?_
 exact cH
def AY(p:Bool):M prog 95 #[.bool p] [] [] (fun m B=>m=.b (if p=true then 1 else 0)∧B=[]):=by
 refine M.aM func95 a ntmps95 a fun an=>?_
 refine I 0 ?_
 refine K.cond a (fun G=>?_) (fun G=>?_)
 subst G
 refine aF ?_
 exact L1
 subst G
 refine aF ?_
 exact L1
def anV(e:T):M prog 186 #[e] [] [] (fun m B=>m=.agg #[e.id,e.am,e.cg,e.ck,e.eN,e.dm,e.seq,.b 1,Value.slice none 0 0]∧B=[]):=by
 refine M.aM func186 a ntmps186 a fun an=>?_
 exact cH
def WM(e:T)(bg:Int)(jd:Value)(x:Int)(sS:Value.oneCell' jd=true):M prog 209 #[.agg #[e.id,e.am,e.cg,e.ck,e.eN,e.dm,e.seq,bg,jd],x] [] [] (fun m B=>m=.b (if e.ck≤x then 6 else 0)∧B=[]):=by
 refine M.aM func209 a ntmps209 a fun an=>?_
 refine aU ?_ ?_
 exact RY
 exact RY
end Go.Proofs.YtohjlkjhpibkmaaGreatDoor
