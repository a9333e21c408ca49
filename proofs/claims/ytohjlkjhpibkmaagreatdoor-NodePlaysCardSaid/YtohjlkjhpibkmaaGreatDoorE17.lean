/-
  Rules and plain laws that the walks use.
-/
import Derived.KernelRfl
import Derived.Test.YtohjlkjhpibkmaaGreatDoorE16
import Derived.Test.YtohjlkjhpibkmaaGreatDoorE05
import Derived.Test.YtohjlkjhpibkmaaGreatDoorE13
import Derived.WideKeyEntry
import Derived.Test.YtohjlkjhpibkmaaGreatDoorE14
import Derived.Test.YtohjlkjhpibkmaaGreatDoorE04
set_option linter.all false
namespace Go.Proofs.YtohjlkjhpibkmaaGreatDoor
open Go Go.LK Go.Proofs.Tryz
set_option maxRecDepth 100000
set_option maxHeartbeats 4000000
def lb(s dr:Int):M prog 199 #[s,dr] [] [] (fun m B=>m=.b (ab.cc s dr)∧B=[]):=by
 exact adV
def ag4(l p:Int)(G:0≤l∧l≤1099511627776)(J:0≤p∧p≤1099511627776):M prog 268 #[l,p] [] [] (fun m B=>m=.b (l-p)∧B=[]):=by
 refine M.aM func268 a ntmps268 a fun an=>?_
 exact cH
def TD(l p:Int)(G:0≤l∧l≤1099511627776)(J:0≤p∧p≤1099511627776):M prog 205 #[l,p] [] [] (fun m B=>m=.b (l+p)∧B=[]):=by
 refine M.aM func205 a ntmps205 a fun an=>?_
 exact cH
def ag6(l p:Int):M prog 204 #[l,p,.func (.func 268) #[] #[]] [] [] (fun m B=>m=.b (ab.left l p)∧B=[]):=by
 refine M.aM func204 a ntmps204 a fun an=>?_
 refine P lb ?_
 refine P lb ?_
 refine w.f (aq.dA call268 a a (ag4 (ab.cc l 1099511627776) (ab.cc p 1099511627776) (ab.gP _ bd) (ab.gP _ bd)) [] a .nil) a ?_
 exact He
def H3(l p:Int):M prog 187 #[l,p] [] [] (fun m B=>m=.b (ab.left l p)∧B=[]):=by
 refine M.aM func187 a ntmps187 a fun an=>?_
 refine P ag6 ?_
 exact cH
def agZ(l p:Int):M prog 226 #[l,p,.func (.func 205) #[] #[]] [] [] (fun m B=>m=.b (g.fv l p)∧B=[]):=by
 refine M.aM func226 a ntmps226 a fun an=>?_
 refine P lb ?_
 refine P lb ?_
 refine w.f (aq.dA call205 a a (TD (ab.cc l 2147483647) (ab.cc p 2147483647) (by have au:=ab.gP l (bd:(0:Int)≤2147483647);omega) (by have au:=ab.gP p (bd:(0:Int)≤2147483647);omega)) [] a .nil) a ?_
 exact He
def rC(l p:Int):M prog 288 #[l,p] [] [] (fun m B=>m=.b (g.fv l p)∧B=[]):=by
 refine M.aM func288 a ntmps288 a fun an=>?_
 refine P agZ ?_
 exact cH
def ag7(l p:Int):M prog 204 #[l,p,.func (.func 205) #[] #[]] [] [] (fun m B=>m=.b (g.later l p)∧B=[]):=by
 refine M.aM func204 a ntmps204 a fun an=>?_
 refine P lb ?_
 refine P lb ?_
 refine w.f (aq.dA call205 a a (TD (ab.cc l 1099511627776) (ab.cc p 1099511627776) (ab.gP _ bd) (ab.gP _ bd)) [] a .nil) a ?_
 exact He
def TA(l p:Int):M prog 102 #[l,p] [] [] (fun m B=>m=.b (g.later l p)∧B=[]):=by
 refine M.aM func102 a ntmps102 a fun an=>?_
 refine P ag7 ?_
 exact cH
def Xd(s u:Int):M prog 262 #[s,u] [] [] (fun m B=>m=.bool (ab.r6 s u)∧B=[]):=by
 refine M.aM func262 a ntmps262 a fun an=>?_
 refine aU (fun eC=>?_) (fun eC=>?_)
 exact acE
 exact acE
def T4(e:Int):M prog 379 #[e] [] [] (fun m B=>m=.bool false∧B=[]):=by
 refine M.aM func379 a ntmps379 a fun an=>?_
 refine aF ?_
 exact aO ⟨by simp [ed],rfl⟩
def H9(e F:Int):M prog 344 #[e,F] [] [] (fun m B=>m=.b (g.qk e F)∧B=[]):=by
 refine M.aM func344 a ntmps344 a fun an=>?_
 refine P T4 ?_
 refine P T4 ?_
 refine aU ?_ ?_
 exact RI
 refine aU ?_ ?_
 exact RI
 exact RI
def YE(br:Value)(f:List Int)(S:f.length≤100000):M prog 343 #[br] [bF br 1 (f.map bH)] [] (fun m B=>m=.b (g.first f)∧B=[]):=by
 refine M.aM func343 a ntmps343 a fun an=>?_
 refine aD 1 ?_
 refine de (bo:=Nat) (fun d=>d≤f.length∧g.first f=g.first (f.drop d)) (fun d=>[(7,.b (d:Int))]) (fun d=>[]) (fun d=>f.length-d) 0 [5,6] ⟨by omega,rfl⟩ ?_
 rintro d ⟨R,ci⟩
 refine aU ?_ ?_
 refine I 0 ?_
 intros
 obtain ⟨bP,dJ⟩:=c4 (f:=f) (b:=d) E
 refine aU ?_ ?_
 refine aF ?_
 intros
 exact aO ⟨(by rw [g.aiZ ci dJ E];rfl),a⟩
 refine I 1 ?_
 intros
 exact da (d+1) ⟨by omega,g.ai0 ci dJ E⟩
 refine aF ?_
 intros
 exact aO ⟨(by rw [g.aiY ci E];rfl),a⟩
def Dh(l p:T):M prog 295 #[l,p] [] [] (fun m B=>m=.b (g.ja l p)∧B=[]):=by
 refine M.aM func295 a ntmps295 a fun an=>?_
 refine I 2 ?_
 intros
 refine K.hW 15 Tryz.bE aN ?_
 refine P H9 ?_
 refine P H9 ?_
 refine P H9 ?_
 refine aD 0 ?_
 refine w.f (aq.fs bH [g.qk l.ck p.ck,g.qk l.seq p.seq,g.qk l.id p.id] gz dt iF a a a aN a a) a ?_
 rintro u0 _ rfl
 refine P YE ?_
 exact cH
def YD(l p:T):M prog 351 #[l,p] [] [] (fun m B=>m=.bool (g.kz l p)∧B=[]):=by
 refine M.aM func351 a ntmps351 a fun an=>?_
 refine P Dh ?_
 exact cH
def atO(l p:T):M prog 320 #[l,p] [] [] (fun m B=>m=.bool (g.iL l p)∧B=[]):=by
 refine M.aM func320 a ntmps320 a fun an=>?_
 refine I 2 ?_
 intros
 refine K.hW 8 Tryz.bE aN ?_
 refine P H9 ?_
 refine P Dh ?_
 refine aD 0 ?_
 refine w.f (aq.fs bH [g.qk l.am p.am,g.ja l p] gz dt iF a a a aN a a) a ?_
 rintro u0 _ rfl
 refine P YE ?_
 exact cH
def atN(l p:T):M prog 319 #[l,p] [] [] (fun m B=>m=.bool (g.iL l p)∧B=[]):=by
 refine M.aM func319 a ntmps319 a fun an=>?_
 refine P atO ?_
 exact cH
def PW(e:T)(x:Int):M prog 104 #[e,x] [] [] (fun m B=>m=.b (g.ew e x)∧B=[]):=by
 refine M.aM func104 a ntmps104 a fun an=>?_
 refine aU ?_ ?_
 exact ac9
 refine I 0 ?_
 intros
 refine K.hW 8 Tryz.bE aN ?_
 refine P H3 ?_
 exact adj
def Zq(X:Value)(f:List T)(l p:Int)(S:f.length≤100000)(V:0≤l)(lw:l≤p)(av:p≤f.length):M prog 377 #[X,l,p,.func (.func 295) #[] #[]] [] [row X 66 7 (f.map T.cells)] (fun m B=>m=.tuple #[]∧∃ t:List T,t.Perm f∧g.jB f t l p∧g.gL t l p∧B=[row X 66 7 (t.map T.cells)]):=by
 refine M.aM func377 a ntmps377 a fun an=>?_
 refine I 1 ?_
 refine de (bo:=Int×List T) (fun (b,t)=>l+1≤b∧t.Perm f∧g.jB f t l p∧g.gL t l b) (fun (b,t)=>[(8,.b b)]) (fun (b,t)=>[row X 66 7 (t.map T.cells)]) (fun (b,t)=>(p-b).toNat) ⟨l+1,f⟩ [0,1,2,3] ⟨by omega,.refl _,.refl,.one E⟩ ?_
 rintro ⟨b,t⟩ ⟨ac,ad,bI,aW⟩
 refine aU ?_ ?_
 refine I 0 ?_
 intros
 refine de (bo:=Int×List T) (fun (k,e9)=>l≤k∧k≤b∧b < p∧e9.Perm f∧g.jB f e9 l p∧g.uU e9 l b k) (fun (k,e9)=>[(9,.b k)]) (fun (k,e9)=>[row X 66 7 (e9.map T.cells)]) (fun (k,e9)=>k.toNat) ⟨b,t⟩ [0,1,2,3,8] ⟨by omega,by omega,by omega,ad,bI,.start aW⟩ ?_
 rintro ⟨k,e9⟩ ⟨ag,V4,hib,ad,bI,hf⟩
 refine I 0 ?_
 refine K.fD 14 Tryz.bE aN ?_
 refine aU (fun fp=>?_) (fun fp=>?_)
 refine aD 0 ?_
 obtain ⟨cP,il⟩:=c4 (f:=e9) (b:=(k).toNat) nT
 refine aD 3 ?_
 obtain ⟨cQ,h3⟩:=c4 (f:=e9) (b:=(k-1).toNat) nT
 refine aD 2 ?_
 refine w.oD (aq.dA call295 a a (Dh cP cQ) [] a .nil) a a ?_
 rintro _ _ ⟨_,⟨rfl,rfl⟩,rfl⟩
 refine aU ?_ ?_
 refine I 0 ?_
 intros
 refine K.ef (df [(0,15),(15,0),(16,1),(17,0)]) [0] Tryz.bE aN a ?_
 refine aD 7 ?_
 refine aL.cq a (aq.jS 0 (k:=(k).toNat) (off:=0) (ae:=cQ) (r:=cP) (⟨cQ.id,cQ.am,cQ.cg,cQ.ck,cQ.eN,cQ.dm,cQ.seq⟩) a a a a E il a gE a a a a a) ?_
 rintro _ _ rfl
 refine aD 1 ?_
 obtain ⟨hL,sL⟩:=c4 (f:=e9.set (k).toNat (⟨cQ.id,cQ.am,cQ.cg,cQ.ck,cQ.eN,cQ.dm,cQ.seq⟩)) (b:=(k-1).toNat) nT
 refine aD 1 ?_
 refine aL.cq a (aq.jS 0 (k:=(k-1).toNat) (off:=0) (ae:=cP) (r:=hL) (⟨cP.id,cP.am,cP.cg,cP.ck,cP.eN,cP.dm,cP.seq⟩) a a a a E sL a gE a a a a a) ?_
 rintro _ _ rfl
 refine aD 2 ?_
 exact da ⟨k-1,(e9.set (k).toNat (⟨cQ.id,cQ.am,cQ.cg,cQ.ck,cQ.eN,cQ.dm,cQ.seq⟩)).set (k-1).toNat (⟨cP.id,cP.am,cP.cg,cP.ck,cP.eN,cP.dm,cP.seq⟩)⟩ ⟨by omega,by omega,hib,(g.y3 bO bO).trans ad,bI.trans (.swap bO bO E E E E E E),hf.step E E E bO bO bO⟩
 refine I 1 ?_
 intros
 exact adP
 refine aD 1 ?_
 exact adP
 refine aF ?_
 intros
 exact aO ⟨a,_,ad,bI,(fun wX gl oP l5 e4 dx fe=>aW wX gl oP l5 e4 dx E),a⟩
def Qh(X:Value)(f:List T)(l p s:Int)(S:f.length≤100000)(V:0≤l)(lV:0≤s)(lw:l+s≤p)(E8:p+s≤f.length):M prog 392 #[X,l,p,s,.func (.func 295) #[] #[]] [] [row X 66 7 (f.map T.cells)] (fun m B=>m=.tuple #[]∧∃ t:List T,t.Perm f∧g.uZ f t l p s∧B=[row X 66 7 (t.map T.cells)]):=by
 refine M.aM func392 a ntmps392 a fun an=>?_
 refine I 0 ?_
 refine de (bo:=Int×List T) (fun (b,t)=>0≤b∧b≤s∧t.Perm f∧g.uZ f t l p b) (fun (b,t)=>[(10,.b b)]) (fun (b,t)=>[row X 66 7 (t.map T.cells)]) (fun (b,t)=>(s-b).toNat) ⟨0,f⟩ [0,1,2,3] ⟨by omega,by omega,.refl _,.zero⟩ ?_
 rintro ⟨b,t⟩ ⟨ac,cN,ad,ix⟩
 refine aU ?_ ?_
 refine I 0 ?_
 intros
 refine K.ef (df [(0,21),(21,0),(22,1),(23,0)]) [0] Tryz.bE aN a ?_
 refine aD 3 ?_
 obtain ⟨bP,dJ⟩:=c4 (f:=t) (b:=(p+b).toNat) nT
 refine aD 3 ?_
 obtain ⟨cP,il⟩:=c4 (f:=t) (b:=(l+b).toNat) nT
 refine aD 3 ?_
 refine aL.cq a (aq.jS 0 (k:=(l+b).toNat) (off:=0) (ae:=bP) (r:=cP) (⟨bP.id,bP.am,bP.cg,bP.ck,bP.eN,bP.dm,bP.seq⟩) a a a a E il a gE a a a a a) ?_
 rintro _ _ rfl
 refine aD 1 ?_
 obtain ⟨dZ,ji⟩:=c4 (f:=t.set (l+b).toNat (⟨bP.id,bP.am,bP.cg,bP.ck,bP.eN,bP.dm,bP.seq⟩)) (b:=(p+b).toNat) nT
 refine aD 1 ?_
 refine aL.cq a (aq.jS 0 (k:=(p+b).toNat) (off:=0) (ae:=cP) (r:=dZ) (⟨cP.id,cP.am,cP.cg,cP.ck,cP.eN,cP.dm,cP.seq⟩) a a a a E ji a gE a a a a a) ?_
 rintro _ _ rfl
 refine aD 2 ?_
 exact da ⟨b+1,(t.set (l+b).toNat (⟨bP.id,bP.am,bP.cg,bP.ck,bP.eN,bP.dm,bP.seq⟩)).set (p+b).toNat (⟨cP.id,cP.am,cP.cg,cP.ck,cP.eN,cP.dm,cP.seq⟩)⟩ ⟨by omega,by omega,(g.y3 bO bO).trans ad,ix.step E E E bO bO⟩
 refine aF ?_
 intros
 exact aO ⟨a,_,ad,(show b=s from by omega) ▸ ix,a⟩
def avF(X:Value)(f:List T)(l A p:Int)(S:f.length≤100000)(V:0≤l)(NY:l < A)(OE:A < p)(av:p≤f.length):M prog 389 #[X,l,A,p,.func (.func 295) #[] #[]] [] [row X 66 7 (f.map T.cells)] (fun m B=>m=.tuple #[]∧∃ t:List T,t.Perm f∧g.lL f t l A p∧B=[row X 66 7 (t.map T.cells)]):=by
 refine M.aM func389 a ntmps389 a fun an=>?_
 refine I 2 ?_
 refine de (bo:=Int×Int×List T) (fun (b,k,t)=>1≤b∧b≤A-l∧1≤k∧k≤p-A∧t.Perm f∧∀ Z,g.lL t Z (A-b) A (A+k)→g.lL f Z l A p) (fun (b,k,t)=>[(10,.b b),(11,.b k)]) (fun (b,k,t)=>[row X 66 7 (t.map T.cells)]) (fun (b,k,t)=>(b+k).toNat) ⟨A-l,p-A,f⟩ [0,2,4] ⟨by omega,by omega,by omega,by omega,uJ _,fun J5 au=>by rwa [show A-(A-l)=l from by omega,show A+(p-A)=p from by omega] at au⟩ ?_
 rintro ⟨b,k,t⟩ ⟨ac,hia,ag,hjb,ad,dI⟩
 refine aU ?_ ?_
 refine aU ?_ ?_
 refine aD 1 ?_
 intros
 refine P (Qh X t (A-b) A k nT E E E nT ) ?_
 rintro _ _ ⟨rfl,fi,hq4,hW5,rfl⟩
 have ad:=hq4.trans ad
 refine I 1 ?_
 exact da ⟨b-k,k,fi⟩ ⟨by omega,by omega,by omega,by omega,ad,(fun J5 au=>dI J5 (g.lL.one hW5 au E E E))⟩
 refine aD 3 ?_
 intros
 refine P (Qh X t (A-b) ((A+k)-b) b nT E E E nT ) ?_
 rintro _ _ ⟨rfl,m7,hq8,hW9,rfl⟩
 have ad:=hq8.trans ad
 refine I 1 ?_
 exact da ⟨b,k-b,m7⟩ ⟨by omega,by omega,by omega,by omega,ad,(fun J5 au=>dI J5 (g.lL.awt hW9 au E E E))⟩
 refine aD 1 ?_
 intros
 refine P (Qh X t (A-b) A b nT E E E nT ) ?_
 rintro _ _ ⟨rfl,m11,hq12,hW13,rfl⟩
 have ad:=hq12.trans ad
 refine aF ?_
 exact aO ⟨a,_,ad,dI _ ((show b=k from by omega) ▸ g.lL.FI hW13 E E),a⟩
def Zr(d:Nat)(X:Value)(f:List T)(l A p:Int)(S:f.length≤100000)(V:0≤l)(NY:l < A)(OE:A < p)(av:p≤f.length)(jw:g.gL f l A)(lf:g.gL f A p)(R:(p-l).toNat < d):M prog 378 #[X,l,A,p,.func (.func 295) #[] #[]] [] [row X 66 7 (f.map T.cells)] (fun m B=>m=.tuple #[]∧∃ t:List T,t.Perm f∧g.jB f t l p∧g.gL t l p∧B=[row X 66 7 (t.map T.cells)]):=by
  induction d generalizing f l A p with
  | zero=>exact absurd R (ts _)
  | succ d b6 =>
  have ad:f.Perm f:=uJ f
  refine M.aM func378 a ntmps378 a fun an=>?_
  refine aU ?_ ?_
  ·
    refine I 0 ?_
    intros
    refine de (bo:=Int×Int) (fun (e,F)=>g.fB (fun au=>g.BK f au l) (fun au=>g.BQ f au l) A p e F) (fun (e,F)=>[(10,.b e),(11,.b F)]) (fun (e,F)=>[]) (fun (e,F)=>(F-e).toNat) ⟨A,p⟩ [0,1,2,3,4] (.zero E) ?_
    rintro ⟨e,F⟩ dP
    try dsimp only at dP
    have U_:=dP.f
    have U':=dP.t
    have Vc:=dP.c
    refine aU ?_ ?_
    ·
      refine I 1 ?_
      intros
      refine w.n (U.conv wr xU a) a ?_
      refine w.n (U.Kn a a a) a ?_
      refine w.n (U.O (U.conv xU wr a) (dz (Value.int .i64) (yk E E))) a ?_
      refine I 0 ?_
      refine K.fD 9 Tryz.bE aN ?_
      refine aD 0 ?_
      obtain ⟨cP,il⟩:=c4 (f:=f) (b:=((e+F) / 2).toNat) E
      refine aD 2 ?_
      obtain ⟨cQ,h3⟩:=c4 (f:=f) (b:=(l).toNat) E
      refine aD 2 ?_
      refine w.f (aq.dA call295 a a (Dh cP cQ) [] a .nil) a ?_
      rintro _ _ ⟨_,⟨rfl,rfl⟩,rfl⟩
      refine aU ?_ ?_
      ·
        refine I 1 ?_
        intros
        exact Sc
      ·
        refine I 0 ?_
        intros
        exact Sd
    ·
      refine I 0 ?_
      intros
      refine de (bo:=Int×List T) (fun (aI,t)=>l≤aI∧aI≤e-1∧t.Perm f∧g.zG f t l aI) (fun (aI,t)=>[(13,.b aI)]) (fun (aI,t)=>[row X 66 7 (t.map T.cells)]) (fun (aI,t)=>(e-aI).toNat) ⟨l,f⟩ [0,1,2,3,4,10] ⟨by omega,by omega,.refl _,.zero⟩ ?_
      rintro ⟨aI,t⟩ ⟨ce,hzx,ad,hU⟩
      refine aU ?_ ?_
      ·
        refine I 0 ?_
        intros
        refine K.ef (df [(0,15),(15,0),(16,1),(17,0)]) [0] Tryz.bE aN a ?_
        refine aD 2 ?_
        obtain ⟨hL,sL⟩:=c4 (f:=t) (b:=(aI+1).toNat) nT
        refine aD 2 ?_
        obtain ⟨gU,sM⟩:=c4 (f:=t) (b:=(aI).toNat) nT
        refine aD 3 ?_
        refine aL.cq a (aq.jS 0 (k:=(aI).toNat) (off:=0) (ae:=hL) (r:=gU) (⟨hL.id,hL.am,hL.cg,hL.ck,hL.eN,hL.dm,hL.seq⟩) a a a a E sM a gE a a a a a) ?_
        rintro _ _ rfl
        refine aD 1 ?_
        obtain ⟨jG,yn⟩:=c4 (f:=t.set (aI).toNat (⟨hL.id,hL.am,hL.cg,hL.ck,hL.eN,hL.dm,hL.seq⟩)) (b:=(aI+1).toNat) nT
        refine aD 1 ?_
        refine aL.cq a (aq.jS 0 (k:=(aI+1).toNat) (off:=0) (ae:=gU) (r:=jG) (⟨gU.id,gU.am,gU.cg,gU.ck,gU.eN,gU.dm,gU.seq⟩) a a a a E yn a gE a a a a a) ?_
        rintro _ _ rfl
        refine aD 2 ?_
        exact da ⟨aI+1,(t.set (aI).toNat (⟨hL.id,hL.am,hL.cg,hL.ck,hL.eN,hL.dm,hL.seq⟩)).set (aI+1).toNat (⟨gU.id,gU.am,gU.cg,gU.ck,gU.eN,gU.dm,gU.seq⟩)⟩ ⟨by omega,by omega,(g.y3 bO bO).trans ad,hU.step E E bO bO⟩
      ·
        refine aF ?_
        intros
        exact aO ⟨a,_,(g.Po lf dP bO hU bO hzx V E av).2.n,(g.Po lf dP bO hU bO hzx V E av).2,(g.Po lf dP bO hU bO hzx V E av).1,a⟩
  ·
    refine aU ?_ ?_
    ·
      refine I 0 ?_
      intros
      refine de (bo:=Int×Int) (fun (e,F)=>g.fB (fun au=>g.BQ f A au) (fun au=>g.BK f A au) l A e F) (fun (e,F)=>[(14,.b e),(15,.b F)]) (fun (e,F)=>[]) (fun (e,F)=>(F-e).toNat) ⟨l,A⟩ [0,1,2,3,4] (.zero E) ?_
      rintro ⟨e,F⟩ dP
      try dsimp only at dP
      have U_:=dP.f
      have U':=dP.t
      have Vc:=dP.c
      refine aU ?_ ?_
      ·
        refine I 1 ?_
        intros
        refine w.n (U.conv wr xU a) a ?_
        refine w.n (U.Kn a a a) a ?_
        refine w.n (U.O (U.conv xU wr a) (dz (Value.int .i64) (yk E E))) a ?_
        refine I 0 ?_
        refine K.fD 9 Tryz.bE aN ?_
        refine aD 0 ?_
        obtain ⟨Cj,CB⟩:=c4 (f:=f) (b:=(A).toNat) E
        refine aD 2 ?_
        obtain ⟨sC,yo⟩:=c4 (f:=f) (b:=((e+F) / 2).toNat) E
        refine aD 2 ?_
        refine w.f (aq.dA call295 a a (Dh Cj sC) [] a .nil) a ?_
        rintro _ _ ⟨_,⟨rfl,rfl⟩,rfl⟩
        refine I 0 ?_
        refine K.cond a (fun tZ=>?_) (fun tZ=>?_)
        ·
          have Cr:(decide ((g.ja Cj sC) < 0))=false:=c_ tZ
          have JM:=fa Cr
          refine I 1 ?_
          exact Sc
        ·
          have rL:(decide ((g.ja Cj sC) < 0))=true:=c_ tZ
          have XS:=dp rL
          refine I 0 ?_
          exact Sd
      ·
        refine I 0 ?_
        intros
        refine de (bo:=Int×List T) (fun (aI,t)=>e≤aI∧aI≤A∧t.Perm f∧g.zw f t A aI) (fun (aI,t)=>[(17,.b aI)]) (fun (aI,t)=>[row X 66 7 (t.map T.cells)]) (fun (aI,t)=>(aI-e).toNat) ⟨A,f⟩ [0,1,2,3,4,14] ⟨by omega,by omega,.refl _,.zero⟩ ?_
        rintro ⟨aI,t⟩ ⟨hzx,ce,ad,hU⟩
        refine aU ?_ ?_
        ·
          refine I 0 ?_
          intros
          refine K.ef (df [(0,15),(15,0),(16,1),(17,0)]) [0] Tryz.bE aN a ?_
          refine aD 2 ?_
          obtain ⟨lP,CC⟩:=c4 (f:=t) (b:=(aI-1).toNat) nT
          refine aD 2 ?_
          obtain ⟨pH,akt⟩:=c4 (f:=t) (b:=(aI).toNat) nT
          refine aD 3 ?_
          refine aL.cq a (aq.jS 0 (k:=(aI).toNat) (off:=0) (ae:=lP) (r:=pH) (⟨lP.id,lP.am,lP.cg,lP.ck,lP.eN,lP.dm,lP.seq⟩) a a a a E akt a gE a a a a a) ?_
          rintro _ _ rfl
          refine aD 1 ?_
          obtain ⟨aiJ,aku⟩:=c4 (f:=t.set (aI).toNat (⟨lP.id,lP.am,lP.cg,lP.ck,lP.eN,lP.dm,lP.seq⟩)) (b:=(aI-1).toNat) nT
          refine aD 1 ?_
          refine aL.cq a (aq.jS 0 (k:=(aI-1).toNat) (off:=0) (ae:=pH) (r:=aiJ) (⟨pH.id,pH.am,pH.cg,pH.ck,pH.eN,pH.dm,pH.seq⟩) a a a a E aku a gE a a a a a) ?_
          rintro _ _ rfl
          refine aD 2 ?_
          exact da ⟨aI-1,(t.set (aI).toNat (⟨lP.id,lP.am,lP.cg,lP.ck,lP.eN,lP.dm,lP.seq⟩)).set (aI-1).toNat (⟨pH.id,pH.am,pH.cg,pH.ck,pH.eN,pH.dm,pH.seq⟩)⟩ ⟨by omega,by omega,(g.y3 bO bO).trans ad,hU.step E E bO bO⟩
        ·
          refine aF ?_
          intros
          exact aO ⟨a,_,(g.Pp jw dP bO hU bO hzx V E av).2.n,(g.Pp jw dP bO hU bO hzx V E av).2,(g.Pp jw dP bO hU bO hzx V E av).1,a⟩
    ·
      refine I 1 ?_
      intros
      refine w.n (U.conv wr xU a) a ?_
      refine w.n (U.Kn a a a) a ?_
      refine w.n (U.O (U.conv xU wr a) (dz (Value.int .i64) (yk E E))) a ?_
      refine w.e1 6 a ?_
      refine w.n (U.hJ a a E) a ?_
      refine w.dw 14 a ?_
      refine K.Ci (bo:=Int×Int) (fun c3=>((l+p) / 2 < A∧c3.1=(l+p) / 2+A-p∧c3.2=(l+p) / 2)∨(A≤(l+p) / 2∧c3.1=l∧c3.2=A)) (fun c3=>[(0,X),(1,.b l),(2,.b A),(3,.b p),(4,.func (.func 295) #[] #[]),(18,.b ((l+p) / 2)),(19,.b (((l+p) / 2)+A)),(20,.b c3.1),(21,.b c3.2)]) (fun c3=>[row X 66 7 (f.map T.cells)]) ?_ ?_
      ·
        rintro ⟨gw,ac⟩ hq29
        have CK:((l+p) / 2 < A∧gw=(l+p) / 2+A-p∧ac=(l+p) / 2)∨(A≤(l+p) / 2∧gw=l∧ac=A):=hq29
        refine I 1 ?_
        refine de (bo:=Int×Int) (fun (e,F)=>g.fB (fun au=>g.BQ f ((l+p) / 2+A-1-au) au) (fun au=>g.BK f ((l+p) / 2+A-1-au) au) gw ac e F) (fun (e,F)=>[(20,.b e),(21,.b F)]) (fun (e,F)=>[]) (fun (e,F)=>(F-e).toNat) ⟨gw,ac⟩ [0,1,2,3,4,18,19,22] (.zero E) ?_
        rintro ⟨e,F⟩ dP
        try dsimp only at dP
        have U_:=dP.f
        have U':=dP.t
        have Vc:=dP.c
        refine aU ?_ ?_
        ·
          refine I 1 ?_
          intros
          refine w.n (U.conv wr xU a) a ?_
          refine w.n (U.Kn a a a) a ?_
          refine w.n (U.O (U.conv xU wr a) (dz (Value.int .i64) (yk E E))) a ?_
          refine I 0 ?_
          refine K.fD 11 Tryz.bE aN ?_
          refine aD 1 ?_
          obtain ⟨EI,aAm⟩:=c4 (f:=f) (b:=(((((l+p) / 2)+A)-1)-((e+F) / 2)).toNat) E
          refine aD 2 ?_
          obtain ⟨M',aAn⟩:=c4 (f:=f) (b:=((e+F) / 2).toNat) E
          refine aD 2 ?_
          refine w.f (aq.dA call295 a a (Dh EI M') [] a .nil) a ?_
          rintro _ _ ⟨_,⟨rfl,rfl⟩,rfl⟩
          refine I 0 ?_
          refine K.cond a (fun ES=>?_) (fun ES=>?_)
          ·
            have U9:(decide ((g.ja EI M') < 0))=false:=c_ ES
            have JN:=fa U9
            refine I 1 ?_
            exact Sc
          ·
            have ET:(decide ((g.ja EI M') < 0))=true:=c_ ES
            have aA2:=dp ET
            refine I 0 ?_
            exact Sd
        ·
          intros
          refine K.eV 5 a ?_
          refine w.n (U.lG a a E) a ?_
          refine w.dw 4 a ?_
          refine K.Ci (bo:=Bool) (fun c3=>c3=(decide (e < A)&&decide (A < (l+p) / 2+A-e))) (fun c3=>[(0,X),(1,.b l),(2,.b A),(3,.b p),(4,.func (.func 295) #[] #[]),(18,.b ((l+p) / 2)),(20,.b e),(24,.b ((((l+p) / 2)+A)-e)),(185,.bool c3)]) (fun c3=>[row X 66 7 (f.map T.cells)]) ?_ ?_
          ·
            rintro k2 alR
            have sV:k2=(decide (e < A)&&decide (A < (l+p) / 2+A-e)):=alR
            have cF:k2=true→e < A∧A < (l+p) / 2+A-e:=fun au=>by rw [sV] at au;simpa using au
            have wM:k2=false→¬e < A∨¬A < (l+p) / 2+A-e:=fun au=>by rw [sV] at au;simp only [GS,decide_eq_false_iff_not] at au;exact au
            refine K.Ci (bo:=List T) (fun c3=>c3.Perm f∧g.lL f c3 e A ((l+p) / 2+A-e)) (fun c3=>[(0,X),(1,.b l),(3,.b p),(4,.func (.func 295) #[] #[]),(18,.b ((l+p) / 2)),(20,.b e),(24,.b ((((l+p) / 2)+A)-e))]) (fun c3=>[row X 66 7 (c3.map T.cells)]) ?_ ?_
            ·
              rintro t OD
              obtain ⟨ad,dI⟩:t.Perm f∧g.lL f t e A ((l+p) / 2+A-e):=OD
              obtain ⟨⟨c0,Cc,MI,MJ,TO,TP⟩,Ve,Vf,Vh,E0,ld⟩:=g.apH (y:=(l+p) / 2) (s:=(l+p) / 2+A) (r:=(l+p) / 2+A-e) jw lf dP bO V av NY OE rfl rfl CK rfl dI
              have bI:=(dI.Mz ad E Cc MI).mono c0 MJ
              refine K.fC 2 a ?_
              refine K.Ci (bo:=Bool) (fun c3=>c3=(decide (l < e)&&decide (e < (l+p) / 2))) (fun c3=>[(0,X),(1,.b l),(3,.b p),(4,.func (.func 295) #[] #[]),(18,.b ((l+p) / 2)),(20,.b e),(24,.b ((((l+p) / 2)+A)-e)),(199,.bool c3)]) (fun c3=>[row X 66 7 (t.map T.cells)]) ?_ ?_
              ·
                rintro k2 alS
                have sV:k2=(decide (l < e)&&decide (e < (l+p) / 2)):=alS
                have cF:k2=true→l < e∧e < (l+p) / 2:=fun au=>by rw [sV] at au;simpa using au
                have wM:k2=false→¬l < e∨¬e < (l+p) / 2:=fun au=>by rw [sV] at au;simp only [GS,decide_eq_false_iff_not] at au;exact au
                refine K.Ci (bo:=List T) (fun c3=>c3.Perm f∧g.jB f c3 l p∧g.gL c3 l ((l+p) / 2)∧g.gL c3 ((l+p) / 2) ((l+p) / 2+A-e)∧g.gL c3 ((l+p) / 2+A-e) p∧g.ro c3 l ((l+p) / 2) p) (fun c3=>[(0,X),(3,.b p),(4,.func (.func 295) #[] #[]),(18,.b ((l+p) / 2)),(24,.b ((((l+p) / 2)+A)-e))]) (fun c3=>[row X 66 7 (c3.map T.cells)]) ?_ ?_
                ·
                  rintro e9 alT
                  obtain ⟨ad,bI,Vg,E0,Vi,ld⟩:e9.Perm f∧g.jB f e9 l p∧g.gL e9 l ((l+p) / 2)∧g.gL e9 ((l+p) / 2) ((l+p) / 2+A-e)∧g.gL e9 ((l+p) / 2+A-e) p∧g.ro e9 l ((l+p) / 2) p:=alT
                  refine K.seq ?_
                  refine K.Ci (bo:=Bool) (fun c3=>c3=(decide ((l+p) / 2 < (l+p) / 2+A-e)&&decide ((l+p) / 2+A-e < p))) (fun c3=>[(0,X),(3,.b p),(4,.func (.func 295) #[] #[]),(18,.b ((l+p) / 2)),(24,.b ((((l+p) / 2)+A)-e)),(213,.bool c3)]) (fun c3=>[row X 66 7 (e9.map T.cells)]) ?_ ?_
                  ·
                    rintro k2 alU
                    have sV:k2=(decide ((l+p) / 2 < (l+p) / 2+A-e)&&decide ((l+p) / 2+A-e < p)):=alU
                    have cF:k2=true→(l+p) / 2 < (l+p) / 2+A-e∧(l+p) / 2+A-e < p:=fun au=>by rw [sV] at au;simpa using au
                    have wM:k2=false→¬(l+p) / 2 < (l+p) / 2+A-e∨¬(l+p) / 2+A-e < p:=fun au=>by rw [sV] at au;simp only [GS,decide_eq_false_iff_not] at au;exact au
                    refine K.cond a (fun z6=>?_) (fun z6=>?_)
                    ·
                      refine P (b6 e9 ((l+p) / 2) ((((l+p) / 2)+A)-e) p pu pu pu pu pu E0 Vi pu) ?_
                      rintro _ _ ⟨rfl,m45,hq46,hA47,hS48,rfl⟩
                      have ad:=hq46.trans ad
                      refine aF ?_
                      exact aO ⟨a,_,ad,bI.trans (hA47.mono E E),(ld.agy hA47 V E E (by rw [bI.len];omega)).eL (Vg.cc hA47 E) hS48,a⟩
                    ·
                      refine aF ?_
                      exact aO ⟨a,_,ad,bI,ld.eL Vg (by rcases wM bO with au|au;exact fun wX gl oP l5 e4 dx fe=>Vi wX gl oP l5 E dx fe;exact fun wX gl oP l5 e4 dx fe=>E0 wX gl oP l5 e4 dx E),a⟩
                  ·
                    refine aU (fun arK=>?_) (fun arK=>?_)
                    ·
                      refine I 0 ?_
                      exact K.sz (decide (((((l+p) / 2)+A)-e) < p)) (show (decide (((((l+p) / 2)+A)-e) < p))=(decide ((l+p) / 2 < (l+p) / 2+A-e)&&decide ((l+p) / 2+A-e < p)) from mT) ⟨a,a,a,a,a,a,trivial⟩ [0] bd a
                    ·
                      refine I 0 ?_
                      exact K.sz false (show false=(decide ((l+p) / 2 < (l+p) / 2+A-e)&&decide ((l+p) / 2+A-e < p)) from mT) ⟨a,a,a,a,a,a,trivial⟩ [0] bd a
                ·
                  refine K.cond a (fun EU=>?_) (fun EU=>?_)
                  ·
                    refine P (b6 t l e ((l+p) / 2) pu pu pu pu pu Ve Vf pu) ?_
                    rintro _ _ ⟨rfl,m52,hq53,hA54,hS55,rfl⟩
                    have ad:=hq53.trans ad
                    refine I 0 ?_
                    exact K.sz m52 (show m52.Perm f∧g.jB f m52 l p∧g.gL m52 l ((l+p) / 2)∧g.gL m52 ((l+p) / 2) ((l+p) / 2+A-e)∧g.gL m52 ((l+p) / 2+A-e) p∧g.ro m52 l ((l+p) / 2) p from ⟨ad,bI.trans (hA54.mono E E),hS55,Vh.cc hA54 E,E0.cc hA54 E,ld.Mz hA54 V E E (by rw [bI.len];omega)⟩) ⟨a,a,a,a,a,trivial⟩ [0] bd a
                  ·
                    refine I 0 ?_
                    exact K.sz t (show t.Perm f∧g.jB f t l p∧g.gL t l ((l+p) / 2)∧g.gL t ((l+p) / 2) ((l+p) / 2+A-e)∧g.gL t ((l+p) / 2+A-e) p∧g.ro t l ((l+p) / 2) p from ⟨ad,bI,(by rcases wM bO with au|au;exact fun wX gl oP l5 e4 dx fe=>Vf wX gl oP l5 E dx fe;exact fun wX gl oP l5 e4 dx fe=>Ve wX gl oP l5 e4 dx E),Vh,E0,ld⟩) ⟨a,a,a,a,a,trivial⟩ [0] bd a
              ·
                refine aU (fun arL=>?_) (fun arL=>?_)
                ·
                  refine I 0 ?_
                  exact K.sz (decide (e < ((l+p) / 2))) (show (decide (e < ((l+p) / 2)))=(decide (l < e)&&decide (e < (l+p) / 2)) from mT) ⟨a,a,a,a,a,a,a,a,trivial⟩ [0] bd a
                ·
                  refine I 0 ?_
                  exact K.sz false (show false=(decide (l < e)&&decide (e < (l+p) / 2)) from mT) ⟨a,a,a,a,a,a,a,a,trivial⟩ [0] bd a
            ·
              refine K.cond a (fun ajM=>?_) (fun ajM=>?_)
              ·
                refine P (avF X f e A ((((l+p) / 2)+A)-e) pu pu pu pu pu ) ?_
                rintro _ _ ⟨rfl,m59,hq60,hR61,rfl⟩
                have ad:=hq60.trans ad
                refine I 0 ?_
                exact K.sz m59 (show m59.Perm f∧g.lL f m59 e A ((l+p) / 2+A-e) from ⟨ad,hR61⟩) ⟨a,a,a,a,a,a,a,trivial⟩ [0] bd a
              ·
                refine I 0 ?_
                exact K.sz f (show f.Perm f∧g.lL f f e A ((l+p) / 2+A-e) from ⟨ad,g.lL.none (by rcases wM bO with au|au<;>omega) E E E⟩) ⟨a,a,a,a,a,a,a,trivial⟩ [0] bd a
          ·
            refine aU (fun FY=>?_) (fun FY=>?_)
            ·
              refine I 0 ?_
              exact K.sz (decide (A < ((((l+p) / 2)+A)-e))) (show (decide (A < ((((l+p) / 2)+A)-e)))=(decide (e < A)&&decide (A < (l+p) / 2+A-e)) from mT) ⟨a,a,a,a,a,a,a,a,a,trivial⟩ [0] bd a
            ·
              refine I 0 ?_
              exact K.sz false (show false=(decide (e < A)&&decide (A < (l+p) / 2+A-e)) from mT) ⟨a,a,a,a,a,a,a,a,a,trivial⟩ [0] bd a
      ·
        refine aU ?_ ?_
        ·
          refine I 1 ?_
          intros
          exact K.sz ⟨(((l+p) / 2)+A)-p,(l+p) / 2⟩ (show ((l+p) / 2 < A∧((((l+p) / 2)+A)-p)=(l+p) / 2+A-p∧((l+p) / 2)=(l+p) / 2)∨(A≤(l+p) / 2∧((((l+p) / 2)+A)-p)=l∧((l+p) / 2)=A) from E) ⟨a,a,a,a,a,a,a,a,a,trivial⟩ [0] bd a
        ·
          refine I 0 ?_
          intros
          exact K.sz ⟨l,A⟩ (show ((l+p) / 2 < A∧l=(l+p) / 2+A-p∧A=(l+p) / 2)∨(A≤(l+p) / 2∧l=l∧A=A) from E) ⟨a,a,a,a,a,a,a,a,a,trivial⟩ [0] bd a
def avG(X:Value)(f:List T)(s:Int)(S:f.length≤100000)(aw:s=f.length):M prog 342 #[X,s,.func (.func 295) #[] #[]] [] [row X 66 7 (f.map T.cells)] (fun m B=>m=.tuple #[]∧∃ t:List T,t.Perm f∧g.gL t 0 s∧B=[row X 66 7 (t.map T.cells)]):=by
 have ad:f.Perm f:=uJ f
 refine M.aM func342 a ntmps342 a fun an=>?_
 refine I 0 ?_
 refine de (bo:=Int×Int×List T) (fun (l,p,t)=>0≤l∧p=l+20∧l≤s∧t.Perm f∧g.ox 20 l∧g.lo t 20 0 l s) (fun (l,p,t)=>[(7,.b l),(8,.b p)]) (fun (l,p,t)=>[row X 66 7 (t.map T.cells)]) (fun (l,p,t)=>(s+20-p).toNat) ⟨0,20,f⟩ [0,1,2,6] ⟨by omega,by omega,by omega,ad,.zero,.zero⟩ ?_
 rintro ⟨l,p,t⟩ ⟨V,av,han,ad,hl,dP⟩
 refine aU ?_ ?_
 refine aD 0 ?_
 intros
 refine P (Zq X t l p zi E E zi ) ?_
 rintro _ _ ⟨rfl,e9,vo,hA4,NM,rfl⟩
 have ad:=vo.trans ad
 refine I 1 ?_
 exact da ⟨p,p+20,e9⟩ ⟨by omega,by omega,by omega,ad,av ▸ hl.next,dP.one hl E hA4 NM E E⟩
 refine aD 0 ?_
 intros
 refine P (Zq X t l s zi E E zi ) ?_
 rintro _ _ ⟨rfl,m7,hq8,hA9,hS10,rfl⟩
 have ad:=hq8.trans ad
 refine I 0 ?_
 refine de (bo:=Int×List T) (fun (gT,t)=>1≤gT∧t.Perm f∧g.lo t gT 0 s s) (fun (gT,t)=>[(6,.b gT)]) (fun (gT,t)=>[row X 66 7 (t.map T.cells)]) (fun (gT,t)=>(s-gT).toNat) ⟨20,m7⟩ [0,1,2] ⟨by omega,ad,dP.one hl E hA9 hS10 E E⟩ ?_
 rintro ⟨gT,t⟩ ⟨VH,ad,dP⟩
 refine aU ?_ ?_
 refine aD 1 ?_
 intros
 refine de (bo:=Int×Int×List T) (fun (l,p,fi)=>0≤l∧p=l+2*gT∧l≤s∧fi.Perm f∧g.ox (2*gT) l∧g.lo fi (2*gT) 0 l s∧g.lo fi gT l s s) (fun (l,p,fi)=>[(7,.b l),(8,.b p)]) (fun (l,p,fi)=>[row X 66 7 (fi.map T.cells)]) (fun (l,p,fi)=>(s+2*gT-p).toNat) ⟨0,2*gT,t⟩ [0,1,2,6] ⟨by omega,by omega,by omega,ad,.zero,.zero,dP⟩ ?_
 rintro ⟨l,p,fi⟩ ⟨V,av,han,ad,hl,mg,fL⟩
 refine aU ?_ ?_
 refine aD 1 ?_
 intros
 refine P (Zr (p-l+1).toNat X fi l (l+gT) p zi E E E zi (fL.fst hl E E) (fL.snd hl E E E E) nT) ?_
 rintro _ _ ⟨rfl,m14,hq15,hA16,hS17,rfl⟩
 have ad:=hq15.trans ad
 refine aD 2 ?_
 exact da ⟨p,p+(2*gT),m14⟩ ⟨by omega,by omega,by omega,ad,av ▸ hl.next,mg.one hl E hA16 hS17 E E,fL.tail hA16 E⟩
 refine aU ?_ ?_
 refine aD 0 ?_
 intros
 refine P (Zr (s-l+1).toNat X fi l (l+gT) s zi E E E zi (fL.fst hl E E) (fL.snd hl E E E E) nT) ?_
 rintro _ _ ⟨rfl,m20,hq21,hA22,hS23,rfl⟩
 have ad:=hq21.trans ad
 refine aD 1 ?_
 exact da ⟨gT*2,m20⟩ ⟨by omega,ad,(mg.one hl E hA22 hS23 E E).comm⟩
 refine aD 1 ?_
 intros
 exact da ⟨gT*2,fi⟩ ⟨by omega,ad,(mg.bv fL hl E E).comm⟩
 refine aF ?_
 intros
 exact aO ⟨a,_,ad,dP.all E,a⟩
def avE(X:Value)(f:List T)(S:f.length≤100000):M prog 294 #[X,.func (.func 295) #[] #[]] [] [row X 66 7 (f.map T.cells)] (fun m B=>m=.tuple #[]∧∃ t:List T,t.Perm f∧t.Pairwise g.le∧B=[row X 66 7 (t.map T.cells)]):=by
 have ad:f.Perm f:=uJ f
 refine M.aM func294 a ntmps294 a fun an=>?_
 refine P avG ?_
 rintro _ _ ⟨rfl,dG,vn,EY,rfl⟩
 have ad:=vn.trans ad
 refine aF ?_
 exact aO ⟨a,_,ad,(EY.AW (by rw [ad.length_eq];omega)).all,a⟩
def atM(br:Value)(f:List T)(S:f.length≤100000):M prog 220 #[br] [bF br 7 (f.map T.cells)] [] (fun m B=>∃ t:List T,t.Perm f∧t.Pairwise g.le∧B=[row m 66 7 (t.map T.cells)]):=by
 have ad:f.Perm f:=uJ f
 refine M.aM func220 a ntmps220 a fun an=>?_
 refine I 0 ?_
 refine w.f (aq.tQ T.cells iR gE) a ?_
 rintro kh _ rfl
 refine aD 1 ?_
 intro wu
 refine P avE ?_
 rintro _ _ ⟨rfl,fi,hq4,hW5,rfl⟩
 have ad:=hq4.trans ad
 refine aF ?_
 exact aO ⟨_,G2,hW5,a⟩
end Go.Proofs.YtohjlkjhpibkmaaGreatDoor
namespace Go.LK
open Go Go.RowKit
def C6{bi:Type}(p:Nat)(z:bi→Value)(t:List (Int×bi))(key dC:Int):aB where
  dT:=[p]
  holds j:=∃ (cV:Array MapEntry) (di b:Nat),j.heap[p]?=some (.map cV di)∧cV.findIdx? (fun r=>(r.born:Int) == dC)=some b∧∀ aG,kT z (e' t key aG) (cV.modify b fun r=>{ r with val:=z aG }) di
  lt j c d R:=by
    obtain ⟨cV,di,b,G,_⟩:=c
    exact RK
  oM j bQ bU c:=by
    obtain ⟨cV,di,b,G,J⟩:=c
    exact ⟨cV,di,b,by rw [bU p oU];exact G,J⟩
section
variable {bi:Type} {z:bi→Value} {t:List (Int×bi)} {i:cM} {D:bW} {C:List aB} {aX Y d r:TypeId} {e F aI:Operand} {p:Nat}
def aun{o:Program}{j:World}{key:Int}{eU:Value}(cF:o.underlying Y=some (.map d r))(R:o.underlying d=some (.int .i64))(ce:∀ j,(zeroValue r).run o j=.ok eU j)(bh:(cw p z t).holds j) :
    ∃ (bQ:World) (y4:Value) (dC:Int),(Instr.mapEntry Y (.map (some p)) (.b key)).run o j=.ok (.tuple #[y4,dC]) bQ∧Frame j [p] bQ∧(C6 p z t key dC).holds bQ:=by
  obtain ⟨cV,di,G,hl⟩:=bh
  have bc:=hl.find R j key
  have bq:(getObj p).run o j=.ok (.map cV di) j:=by simp [getObj,Sem.run,G]
  have aS:∀ em,(Instr.checkKey em 10000 d (.b key)).run o j=.ok () j:=fun em=>(tD.int R).e7 j em [key] rfl
  cases ft:lM t key 0 with
  | none =>
    have ad:∀ aG,kT z (e' t key aG) (cV.push { key:=.b key,val:=z aG,born:=di }) (di+1):=fun aG=>by
      exact acW
    have Ok:(cV.push { key:=.b key,val:=eU,born:=di }).findIdx? (fun r=>(r.born:Int) == (di:Int))=some cV.size:=by
      rw [Go.WideElems.findIdx_arr]
      exact Go.WideElems.findIdx_born (l:=(cV.push { key:=.b key,val:=eU,born:=di }).toList) (j:=cV.size) (e0:={ key:=.b key,val:=eU,born:=di }) (by
        simp only [za148,gR,kO,Lb]
        refine lm.2 ⟨hl.born,by simp,fun l V fk E_ dQ=>?_⟩
        simp only [nm] at E_
        obtain ⟨e,Q,rfl⟩:=bx.1 V
        have:=hl.kr e Q
        omega) oU
    refine ⟨_,eU,(di:Int),?_,yb j p (.map (cV.push { key:=.b key,val:=eU,born:=di }) (di+1)),⟨_,_,_,yp G,Ok,fun aG=>?_⟩⟩
    · simp only [Instr.mapEntry,nn,jf cF,k7,bq,aS,bc,ft,QJ,A' G,ce]
      rfl
    · have Ow:(cV.push { key:=.b key,val:=eU,born:=di:MapEntry }).modify cV.size (fun r=>{ r with val:=z aG })=cV.push { key:=.b key,val:=z aG,born:=di }:=by
        apply Array.ext'
        rw [KW,za148,za148,←K8,Go.WideElems.modify_last]
      rw [Ow];exact ad aG
  | some n =>
    obtain ⟨k,m⟩:=n
    have ad:∀ aG,k < cV.size∧((cV[k]?).map (·.key))=some (.b key)∧kT z (e' t key aG) (cV.modify k fun r=>{ r with key:=.b key,val:=z aG }) di:=fun aG=>by
      exact acW
    obtain ⟨vh,IS,_⟩:=ad m
    obtain ⟨kl,ne⟩:∃ kl,cV[k]?=some kl:=⟨_,om vh⟩
    have N':kl.key=.b key:=by rw [ne] at IS;simpa using IS
    have ci:(Instr.keyThatStays ((some kl.key).getD (.b key)) (.b key)).run o j=.ok (.b key) j:=by
      rw [N']
      simp [Instr.keyThatStays,Instr.sameBits]
    have CJ:cV.toList[k]?=some kl:=by simpa using ne
    have al2:(cV.modify k fun r=>{ r with key:=.b key })=cV:=by
      apply Array.ext'
      rw [KW,KV _ _ _ _ CJ]
      have:({ kl with key:=.b key }:MapEntry)=kl:=by rw [←N']
      rw [this]
      exact Go.WideElems.set_self _ _ _ CJ
    have Ok:cV.findIdx? (fun r=>(r.born:Int) == ((kl.born:Nat):Int))=some k:=by
      rw [Go.WideElems.findIdx_arr]
      exact Go.WideElems.findIdx_born hl.born CJ
    refine ⟨_,z m,(kl.born:Int),?_,yb j p (.map cV di),⟨_,_,_,yp G,Ok,fun aG=>?_⟩⟩
    · simp only [Instr.mapEntry,nn,jf cF,k7,bq,aS,bc,ft,Bx,ci,A' G,al2,ne]
      rfl
    · have Ow:cV.modify k (fun r=>{ r with val:=z aG })=cV.modify k (fun r=>{ r with key:=.b key,val:=z aG }):=by
        apply Array.ext'
        rw [KW,KW,KV _ _ _ _ CJ,KV _ _ _ _ CJ,←N']
      rw [Ow];exact (ad aG).2.2
def aq.Jl{key:Int}{eU:Value}(b:Nat)(cF:i.o.underlying Y=some (.map d r))(R:i.o.underlying d=some (.int .i64))(ce:∀ j,(zeroValue r).run i.o j=.ok eU j)(Q:aT D e=some (.map (some p)))(az:aT D F=some (.b key))(ac:C[b]?=some (cw p z t)) :
    aq i D C (.mapEntry Y e F) aX fun m B=>∃ y4 dC,m=.tuple #[y4,.b dC]∧B=C.set b (C6 p z t key dC):=fun _ l j V ci y pos cT L bN cz dj=>by
  obtain ⟨bQ,y4,dC,G,J,aA⟩:=aun (key:=key) cF R ce (ci.cC _ (eF ac))
  exact lJ (m:=.tuple #[y4,dC]) (bQ:=bQ) (by simp [execOp,V.aT Q,V.aT az,G]) (dj _ _ _ ⟨y4,dC,rfl,rfl⟩ (ci.set ac (by simpa [cw] using J) aA (by simp [C6,cw])))
def aq.Ng{key dC:Int}{aG:bi}(b:Nat)(Q:aT D e=some (.map (some p)))(az:aT D F=some (.b dC))(ce:aT D aI=some (z aG))(ac:C[b]?=some (C6 p z t key dC)) :
    aq i D C (.entryStore Y e F aI) aX fun _ B=>B=C.set b (cw p z (e' t key aG)):=fun _ l j V ci y pos cT L bN cz dj=>by
  obtain ⟨cV,di,k,G,ag,hl⟩:=ci.cC _ (eF ac)
  have bq:(getObj p).run i.o j=.ok (.map cV di) j:=by simp [getObj,Sem.run,G]
  have J:(Instr.entryStore Y (.map (some p)) (.b dC) (z aG)).run i.o j=.ok () { j with heap:=j.heap.setIfInBounds p (.map (cV.modify k fun r=>{ r with val:=z aG }) di) }:=by
    simp [Instr.entryStore,bq,asInt,asIntOf,ag,A' G,Result.andThen]
  exact KH (bQ:={ j with heap:=j.heap.setIfInBounds p (.map (cV.modify k fun r=>{ r with val:=z aG }) di) }) (by simp [execOp,V.aT Q,V.aT az,V.aT ce,J]) (dj _ _ _ rfl (ci.set ac (by simpa [C6] using yb j p _) ⟨_,di,yp G,hl aG⟩ (by simp [C6,cw])))
end
end Go.LK
namespace Go.Proofs.YtohjlkjhpibkmaaGreatDoor
open Go Go.LK Go.Proofs.Tryz
set_option maxRecDepth 100000
set_option maxHeartbeats 4000000
def JV(n p:Nat)(X:Value)(j:Int)(u:List T)(t:List (Int×Int))(b:Nat)(e:T)(bA:u.length≤100000)(ac:b < u.length):M prog 316 #[n,.b (b:Int),e] [] [ai n [.map (some p),j,X] 294,row X 66 7 (u.map T.cells),cw p (Value.int .i64) t] (fun m B=>m=.tuple #[]∧B=[ai n [.map (some p),j,X] 294,row X 66 7 ((u.set b e).map T.cells),cw p (Value.int .i64) (e' t e.id b)]):=by
 refine M.aM func316 a ntmps316 a fun an=>?_
 refine I 1 ?_
 intros
 refine K.kD Tryz.bE ?_
 refine ar.gV 15 11 a ?_ ?_
 refine ar.fH (df [(0,15),(15,0),(16,0),(17,1),(18,0)]) [0,1,2] aN a ?_
 refine aD 4 ?_
 obtain ⟨bP,dJ⟩:=c4 (f:=u) (b:=b) E
 refine aD 1 ?_
 refine aL.cq a (aq.jS 2 (k:=b) (off:=0) (ae:=e) (r:=bP) (⟨e.id,e.am,e.cg,e.ck,e.eN,e.dm,e.seq⟩) a a a a E dJ a gE a a a a a) ?_
 rintro _ _ rfl
 refine aD 1 ?_
 refine aL.f a (aq.Jl 3 jY e2 iF a a a) a ?_
 rintro _ _ ⟨aBg,b',rfl,rfl⟩
 exact ab0
 refine ar.fH (df [(0,11),(12,3),(15,0),(11,1),(16,0),(17,1),(18,0)]) [0,1,2] aN a ?_
 refine aD 3 ?_
 obtain ⟨eE,jj⟩:=c4 (f:=u) (b:=b) E
 refine aD 1 ?_
 refine aL.cq a (aq.jS 2 (k:=b) (off:=0) (ae:=e) (r:=eE) (⟨e.id,e.am,e.cg,e.ck,e.eN,e.dm,e.seq⟩) a a a a E jj a gE a a a a a) ?_
 rintro _ _ rfl
 refine aD 2 ?_
 refine aL.f a (aq.Jl 3 jY e2 iF a a a) a ?_
 rintro _ _ ⟨u8,d',rfl,rfl⟩
 exact ab0
def arW(n p:Nat)(X:Value)(j:Int)(u:List T)(t:List (Int×Int))(b d:Nat)(bA:u.length≤100000)(ac:b < u.length)(yu:d < u.length)(R:g.hr u t):M prog 352 #[n,.b (b:Int),.b (d:Int)] [] [ai n [.map (some p),j,X] 294,row X 66 7 (u.map T.cells),cw p (Value.int .i64) t] (fun m B=>m=.tuple #[]∧∃ cU dF,cU.Perm u∧g.hr cU dF∧(∀ e F,u[b]?=some e→u[d]?=some F→cU=(u.set b F).set d e)∧B=[ai n [.map (some p),j,X] 294,row X 66 7 (cU.map T.cells),cw p (Value.int .i64) dF]):=by
 refine M.aM func352 a ntmps352 a fun an=>?_
 refine I 0 ?_
 refine K.kD Tryz.bE ?_
 refine ar.gV 14 15 a ?_ ?_
 refine ar.fH (df [(0,14),(15,0),(14,0),(16,0),(17,0)]) [0,1] aN a ?_
 refine aD 1 ?_
 obtain ⟨dQ,nz⟩:=c4 (f:=u) (b:=b) E
 refine aD 3 ?_
 obtain ⟨bP,dJ⟩:=c4 (f:=u) (b:=d) E
 refine P JV ?_
 intro dE mG
 exact adF
 refine ar.fH (df [(0,14),(14,0),(15,0),(16,0),(17,0)]) [0,1] aN a ?_
 refine aD 1 ?_
 obtain ⟨na,qq⟩:=c4 (f:=u) (b:=b) E
 refine aD 3 ?_
 obtain ⟨hL,sL⟩:=c4 (f:=u) (b:=d) E
 refine P JV ?_
 intro Ip Il
 exact adF
def JW(n p:Nat)(X:Value)(j:Int)(u:List T)(t:List (Int×Int))(b d:Int)(bA:u.length≤100000)(Au:0≤b)(ac:b < u.length)(lU:0≤d)(yu:d < u.length)(R:g.hr u t):M prog 352 #[n,b,d] [] [ai n [.map (some p),j,X] 294,row X 66 7 (u.map T.cells),cw p (Value.int .i64) t] (fun m B=>m=.tuple #[]∧∃ cU dF,cU.Perm u∧g.hr cU dF∧(∀ e F,u[b.toNat]?=some e→u[d.toNat]?=some F→cU=(u.set b.toNat F).set d.toNat e)∧B=[ai n [.map (some p),j,X] 294,row X 66 7 (cU.map T.cells),cw p (Value.int .i64) dF]):=by
 obtain ⟨b,rfl⟩:∃ s:Nat,b=s:=⟨b.toNat,by omega⟩
 obtain ⟨d,rfl⟩:∃ s:Nat,d=s:=⟨d.toNat,by omega⟩
 simpa using arW n p X j u t b d bA E E R
def XY(n p:Nat)(X:Value)(j:Int)(u:List T)(t:List (Int×Int))(d:Int)(bA:u.length≤100000)(lU:0≤d)(yu:d < u.length)(R:g.hr u t)(ld:g.D9 u d.toNat):M prog 317 #[n,d] [] [ai n [.map (some p),j,X] 294,row X 66 7 (u.map T.cells),cw p (Value.int .i64) t] (fun m B=>m=.tuple #[]∧∃ cU dF,cU.Perm u∧g.hr cU dF∧g.rq cU d.toNat∧B=[ai n [.map (some p),j,X] 294,row X 66 7 (cU.map T.cells),cw p (Value.int .i64) dF]):=by
 have ad:u.Perm u:=uJ u
 refine M.aM func317 a ntmps317 a fun an=>?_
 refine I 0 ?_
 refine de (bo:=Int×List T×(List (Int×Int))) (fun (k,dR,dG)=>0≤k∧k < u.length∧dR.Perm u∧g.hr dR dG∧g.uT dR d k) (fun (k,dR,dG)=>[(1,.b k)]) (fun (k,dR,dG)=>[row X 66 7 (dR.map T.cells),cw p (Value.int .i64) dG]) (fun (k,dR,dG)=>k.toNat) ⟨d,u,t⟩ [0] ⟨lU,yu,ad,R,.start ld⟩ ?_
 rintro ⟨k,dR,dG⟩ ⟨vg,ue,ad,R,hf⟩
 refine aU ?_ ?_
 refine I 1 ?_
 intros
 refine w.n (U.xa a a E E E) a ?_
 refine I 0 ?_
 refine K.fD 14 Tryz.bE aN ?_
 refine aD 1 ?_
 obtain ⟨bP,dJ⟩:=c4 (f:=dR) (b:=(k).toNat) Ha
 refine aD 3 ?_
 obtain ⟨cP,il⟩:=c4 (f:=dR) (b:=((k-1) / 2).toNat) Ha
 refine P YD ?_
 refine I 0 ?_
 refine K.cond a (fun bT=>?_) (fun bT=>?_)
 have c7:(g.kz bP cP)=false:=c_ bT
 refine aF ?_
 exact adM
 have gi:(g.kz bP cP)=true:=c_ bT
 refine P (JW n p X j dR dG k ((k-1) / 2) Ha E Ha E Ha R) ?_
 rintro _ _ ⟨rfl,t8,m9,hq10,hk11,hf12,rfl⟩
 have ad:=hq10.trans ad
 have R:=hk11
 have AG:=hf12
 refine I 0 ?_
 exact da ⟨(k-1) / 2,t8,m9⟩ ⟨by omega,by omega,ad,R,(by rw [AG _ _ bO bO];exact hf.step E bO bO (g.TF bO))⟩
 refine aF ?_
 intros
 exact adM
def arU(n p:Nat)(X:Value)(j:Int)(u:List T)(t:List (Int×Int))(d:Int)(bA:u.length≤100000)(lU:0≤d)(yu:d < u.length)(R:g.hr u t)(mg:g.rq u d.toNat):M prog 354 #[n,d] [] [ai n [.map (some p),j,X] 294,row X 66 7 (u.map T.cells),cw p (Value.int .i64) t] (fun m B=>m=.tuple #[]∧∃ cU dF,cU.Perm u∧g.hr cU dF∧g.ov cU∧B=[ai n [.map (some p),j,X] 294,row X 66 7 (cU.map T.cells),cw p (Value.int .i64) dF]):=by
 have ad:u.Perm u:=uJ u
 refine M.aM func354 a ntmps354 a fun an=>?_
 refine I 0 ?_
 refine de (bo:=Int×List T×(List (Int×Int))) (fun (k,dR,dG)=>0≤k∧k < u.length∧dR.Perm u∧g.hr dR dG∧g.rq dR k.toNat) (fun (k,dR,dG)=>[(1,.b k)]) (fun (k,dR,dG)=>[row X 66 7 (dR.map T.cells),cw p (Value.int .i64) dG]) (fun (k,dR,dG)=>(u.length-k).toNat) ⟨d,u,t⟩ [0] ⟨lU,yu,ad,R,mg⟩ ?_
 rintro ⟨k,dR,dG⟩ ⟨vg,ue,ad,R,mg⟩
 have V9:=ad.length_eq
 refine aD 2 ?_
 refine de (bo:=Int×Int) (fun (hK,ic)=>k≤hK∧hK < u.length∧2*k+1≤ic∧(hK=k∨2*k+1≤hK)∧g.tz dR k hK ic∧ic≤2*k+3) (fun (hK,ic)=>[(4,.b hK),(5,.b ic)]) (fun (hK,ic)=>[]) (fun (hK,ic)=>(2*k+3-ic).toNat) ⟨k,(2*k)+1⟩ [0,1] ⟨by omega,by omega,by omega,by omega,.zero vg,by omega⟩ ?_
 rintro ⟨hK,ic⟩ ⟨rQ,hbe1,E8,hbj,hbb,hbl3⟩
 refine aU (fun eC=>?_) (fun eC=>?_)
 refine aU ?_ ?_
 refine I 0 ?_
 intros
 refine K.fD 14 Tryz.bE aN ?_
 refine aD 1 ?_
 obtain ⟨cP,il⟩:=c4 (f:=dR) (b:=(ic).toNat) E
 refine aD 3 ?_
 obtain ⟨cQ,h3⟩:=c4 (f:=dR) (b:=(hK).toNat) E
 refine P YD ?_
 refine I 0 ?_
 refine K.cond a (fun c7=>?_) (fun c7=>?_)
 refine I 1 ?_
 exact da ⟨ic,ic+1⟩ ⟨by omega,E,by omega,by omega,hbb.take E E bO bO (g.TF bO),by omega⟩
 refine I 1 ?_
 exact da ⟨hK,ic+1⟩ ⟨by omega,E,by omega,by omega,hbb.cc E E bO bO (g.TE bO),by omega⟩
 refine aU ?_ ?_
 exact ab1
 refine aD 0 ?_
 intros
 refine P JW ?_
 rintro _ _ ⟨rfl,t8,m9,hq10,hk11,hf12,rfl⟩
 have ad:=hq10.trans ad
 have R:=hk11
 have AG:=hf12
 refine I 0 ?_
 exact da ⟨hK,t8,m9⟩ ⟨by omega,by omega,ad,R,aaU⟩
 refine aU ?_ ?_
 exact ab1
 refine aD 0 ?_
 intros
 refine P JW ?_
 rintro _ _ ⟨rfl,t15,m16,hq17,hk18,hf19,rfl⟩
 have ad:=hq17.trans ad
 have R:=hk18
 have AG:=hf19
 refine I 0 ?_
 exact da ⟨hK,t15,m16⟩ ⟨by omega,by omega,ad,R,aaU⟩
def Yb(n p:Nat)(X:Value)(j:Int)(t:List (Int×Int))(id:Int):M prog 314 #[n,id] [ai n [.map (some p),j,X] 294,cw p (Value.int .i64) t] [] (fun m B=>m=.tuple #[.b ((cx t id).getD 0),.bool (cx t id).isSome]∧B=[]):=by
 refine M.aM func314 a ntmps314 a fun an=>?_
 exact adJ
def asJ(n p:Nat)(X:Value)(j:Int)(t:List (Int×Int))(id:Int):M prog 353 #[n,id] [ai n [.map (some p),j,X] 294] [cw p (Value.int .i64) t] (fun m B=>m=.tuple #[]∧B=[cw p (Value.int .i64) (e3 t id)]):=by
 refine M.aM func353 a ntmps353 a fun an=>?_
 refine I 1 ?_
 refine w.cq (aq.yJ 0 a jY e2 a a a) ?_
 rintro _ _ rfl
 exact cH
def XX(n p:Nat)(X:Value)(j:Int)(u:List T)(t:List (Int×Int))(d:Int)(bA:u.length≤100000)(lU:0≤d)(yu:d < u.length)(R:g.hr u t)(Vd:g.ov u):M prog 321 #[n,d] [] [ai n [.map (some p),j,X] 294,row X 66 7 (u.map T.cells),cw p (Value.int .i64) t] (fun m B=>∃ e eJ cU dF,m=.tuple #[.agg #[.b e.id,.b e.am,.b e.cg,.b e.ck,.b e.eN,.b e.dm,.b e.seq],.bool true]∧u[d.toNat]?=some e∧u.Perm (e :: cU)∧g.hG cU dF∧B=[ai n [.map (some p),j,eJ] 294,row eJ 66 7 (cU.map T.cells),cw p (Value.int .i64) dF]):=by
 refine M.aM func321 a ntmps321 a fun an=>?_
 refine I 1 ?_
 intros
 refine K.ef (df [(0,13),(13,0),(14,0),(15,1)]) [1,2] Tryz.bE aN a ?_
 refine aD 1 ?_
 obtain ⟨bP,dJ⟩:=c4 (f:=u) (b:=(d).toNat) E
 refine P JW ?_
 intro dE
 rintro _ _ ⟨rfl,t4,h',ad,R,hs6,rfl⟩
 obtain ⟨aBo,um⟩:∃ l5,u[((u.length:Int)-1).toNat]?=some l5:=⟨_,et E⟩
 have lh:=hs6 _ _ dJ um
 have AG:t4[u.length-1]?=some bP:=by rw [lh];have au:=g.avY dJ um _ dJ;rw [show ((u.length:Int)-1).toNat=u.length-1 from by omega] at au ⊢;exact au
 refine I 1 ?_
 refine w.f (aq.aky 1 iR gE a a a E RB) a ?_
 rintro _ _ ⟨rfl,rfl⟩
 refine I 0 ?_
 refine w.one (ax.row 1 a) (fun aj_=>?_)
 refine w.cq (aq.gy 0 pE aj_ a a a a) ?_
 rintro _ _ rfl
 refine I 0 ?_
 refine K.fD 5 Tryz.bE aN ?_
 refine P asJ ?_
 have mj:t4.length=u.length:=ad.length_eq
 have bf:((u.length:Int)-1).toNat=u.length-1:=by omega
 have IZ:u.Perm (bP :: (t4).take ((u.length:Int)-1).toNat):=by rw [bf];exact ad.symm.trans (mj ▸ g.asC (by rw [mj];exact AG))
 have R:g.hr ((t4).take ((u.length:Int)-1).toNat) (e3 h' bP.id):=by rw [bf];exact mj ▸ R.nI (by rw [mj];exact AG)
 have ad:((t4).take ((u.length:Int)-1).toNat).Perm ((t4).take ((u.length:Int)-1).toNat):=uJ _
 have ca:((t4).take ((u.length:Int)-1).toNat).length=u.length-1:=by rw [ib];omega
 refine aU ?_ ?_
 refine aD 0 ?_
 intros
 refine P (XY n p (j' X 7 0 ((u.length:Int)-1).toNat) j (t4.take ((u.length:Int)-1).toNat) (e3 h' bP.id) d E E E R (by rw [lh];exact Vd.kL E lU E dJ um)) ?_
 rintro _ _ ⟨rfl,t11,m12,hq13,hk14,hf15,rfl⟩
 have ad:=hq13.trans ad
 have R:=hk14
 have mg:=hf15
 refine P (arU n p (j' X 7 0 ((u.length:Int)-1).toNat) j t11 m12 d RB E RB R mg) ?_
 rintro _ _ ⟨rfl,t17,m18,hq19,hk20,hf21,rfl⟩
 have ad:=hq19.trans ad
 have R:=hk20
 have ajS:=hf21
 refine aF ?_
 exact aO ⟨bP,_,_,_,a,dJ,IZ.trans (ad.symm.cons _),⟨R,ajS⟩,a⟩
 refine aF ?_
 intros
 exact aO ⟨bP,_,_,_,a,dJ,IZ.trans (ad.symm.cons _),⟨R,(by rw [lh];exact Vd.arB E)⟩,a⟩
def PK(n p:Nat)(X:Value)(j:Int)(u:List T):M prog 219 #[n] [ai n [.map (some p),j,X] 294,bF X 7 (u.map T.cells)] [] (fun m B=>m=.b u.length∧B=[]):=by
 refine M.aM func219 a ntmps219 a fun an=>?_
 refine I 0 ?_
 refine w.n (U.jA BL a) a ?_
 exact cH
def PJ(n p:Nat)(X:Value)(j:Int)(u:List T)(t:List (Int×Int))(id:Int)(bA:u.length≤100000)(R:g.hG u t):M prog 259 #[n,id] [ai n [.map (some p),j,X] 294,bF X 7 (u.map T.cells),cw p (Value.int .i64) t] [] (fun m B=>∃ e:T,m=.tuple #[e,.bool (cx t id).isSome]∧B=[]):=by
 refine M.aM func259 a ntmps259 a fun an=>?_
 refine I 1 ?_
 intros
 refine w.n (U.jA BL a) a ?_
 refine P Yb ?_
 refine I 0 ?_
 refine js ((cx t id).isSome) (fun aA=>?_) (fun aA=>?_)
 obtain ⟨C0,oP,nC,V0,CH,alr⟩:=R.EN aA
 refine I 0 ?_
 refine K.fZ a (lZ aA) ?_
 refine I 1 ?_
 obtain ⟨cQ,h3⟩:=c4 (f:=u) (b:=((cx t id).getD 0).toNat) E
 refine aF ?_
 exact aO ⟨cQ,(by rw [aA];rfl),a⟩
 refine I 0 ?_
 refine K.lN a (Pu aA) ?_
 refine I 2 ?_
 refine aF ?_
 exact aO ⟨T.zero,(by rw [aA];rfl),a⟩
def JS(n p:Nat)(X:Value)(j:Int)(u:List T)(bA:u.length≤100000):M prog 115 #[n] [ai n [.map (some p),j,X] 294,bF X 7 (u.map T.cells)] [] (fun m B=>∃ v:List T,v.Perm u∧v.Pairwise g.le∧B=[row m 66 7 (v.map T.cells)]):=by
 refine M.aM func115 a ntmps115 a fun an=>?_
 refine P PK ?_
 refine aU ?_ ?_
 intros
 refine K.fC 4 a<|K.fg 66 7 (([]:List T).map T.cells) a ?_
 exact adL
 refine aD 1 ?_
 intros
 refine P atM ?_
 rintro ZQ _ ⟨fi,hq4,hw5,rfl⟩
 exact adL
def arP(n p:Nat)(X:Value)(j:Int)(u:List T)(t:List (Int×Int)):M prog 215 #[n] [] [ai n [.map (some p),j,X] 294,row X 66 7 (u.map T.cells),cw p (Value.int .i64) t] (fun m B=>m=.tuple #[]∧B=[ai n [.map (some p),j,Value.slice none 0 0] 294,row (Value.slice none 0 0) 66 7 (([]:List T).map T.cells),cw p (Value.int .i64) ([]:List (Int×Int))]):=by
 refine M.aM func215 a ntmps215 a fun an=>?_
 refine I 0 ?_
 refine w.n (U.pY BL a) a ?_
 refine I 2 ?_
 refine w.cq (aq.FN 2 a jY a a) ?_
 rintro _ _ rfl
 refine w.nil<|K.fg 66 7 (([]:List T).map T.cells) a ?_
 exact cH
def arQ(j:Int)(bU:0≤j)(gk:j≤64):M prog 134 #[j] [] [] (fun m B=>∃ n p,m=.tuple #[.n n,.b 0]∧B=[ai n [.map (some p),j,Value.slice none 0 0] 294,row (Value.slice none 0 0) 66 7 (([]:List T).map T.cells),cw p (Value.int .i64) ([]:List (Int×Int))]):=by
 refine M.aM func134 a ntmps134 a fun an=>?_
 refine I 0 ?_
 refine w.kK 6 a (p4 E) ?_
 refine I 0 ?_
 refine K.fZ a (p4 E) ?_
 refine I 0 ?_
 refine w.f (aq.AX (Value.int .i64)) a ?_
 rintro _ _ ⟨is,rfl,rfl⟩
 refine w.n (U.build [(0,.map (some is))] [.map (some is)] #[(0,1)] runUnderlying292 zeroValue292 (asl underlying292) a aN) a<|w.e1 1 a ?_
 refine aD 1 ?_
 refine w.f (aq.pF a a) a ?_
 rintro _ _ ⟨cS,rfl,rfl⟩
 refine w.dw 3 a<|K.fg 66 7 (([]:List T).map T.cells) a ?_
 refine aF ?_
 exact aO ⟨cS,is,a,a⟩
def arV(n p:Nat)(X:Value)(j:Int)(u:List T)(t:List (Int×Int))(b:Int)(e:T)(bA:u.length≤100000)(Au:0≤b)(ac:b < u.length):M prog 316 #[n,b,e] [] [ai n [.map (some p),j,X] 294,row X 66 7 (u.map T.cells),cw p (Value.int .i64) t] (fun m B=>m=.tuple #[]∧B=[ai n [.map (some p),j,X] 294,row X 66 7 ((u.set b.toNat e).map T.cells),cw p (Value.int .i64) (e' t e.id b)]):=by
 obtain ⟨b,rfl⟩:∃ s:Nat,b=s:=⟨b.toNat,by omega⟩
 exact JV n p X j u t b e bA E
def JT(n p:Nat)(X:Value)(j:Int)(u:List T)(t:List (Int×Int))(e:T)(bA:u.length≤99999)(R:g.hG u t)(dy:(cx t e.id).isSome=false)(Ou:u.length < j):M prog 263 #[n,e] [] [ai n [.map (some p),j,X] 294,row X 66 7 (u.map T.cells),cw p (Value.int .i64) t] (fun m B=>∃ eJ cU dF,m=.b 0∧cU.Perm (e :: u)∧g.hG cU dF∧B=[ai n [.map (some p),j,eJ] 294,row eJ 66 7 (cU.map T.cells),cw p (Value.int .i64) dF]):=by
 refine M.aM func263 a ntmps263 a fun an=>?_
 refine P PJ ?_
 refine aD 2 ?_
 intros
 refine K.kk Tryz.bE aN ?_
 refine aD 0 ?_
 refine aj.n (U.jA BL a) a<|aj.Z 4 a<|aj.el (aV.br 2 isAgg52 a a a) a a<|aj.el (aV.jN iR a (ax.row 3 a)) a a<|aj.Z 3 a<|aj.el (aV.br 2 ds a a a) a a<|aj.Z 2 a<|aj.qT<|K.fZ a (p4 E) ?_
 refine I 0 ?_
 refine K.ef (df [(0,6),(6,0),(7,0),(8,2),(10,0)]) [1,2] Tryz.bE aN a ?_
 refine aD 2 ?_
 refine aL.f a (aq.fs T.cells [e] iR gE qh a a a aN a a) a ?_
 rintro lv _ rfl
 refine aD 3 ?_
 intro pB
 refine aL.one a (fun _ c=>by cases c<;>rfl) (ax.row 4 a) (fun ua=>?_)
 refine aL.cq a (aq.gy 3 pE ua a a a a) ?_
 rintro _ _ rfl
 refine aD 1 ?_
 refine K.fD 8 Tryz.bE aN<|aj.Z 4 a<|aj.A (aV.br 3 isAgg52 a a a) a<|aj.A (aV.jN iR a (ax.row 4 a)) a<|aj.n (U.lG a a (by first|omega|(simp only [eh,e6,fq,ol];omega))) a<|aj.A (aV.nG 2 qL gE a a a) a<|aj.Cl ?_
 refine P arV ?_
 have ld:=R.ad.push (e:=e) (s:=(((u++([e])).length:Int)-1)) rfl
 obtain ⟨R,ad,ca⟩:=R.ok.asI dy (b:=(((u++([e])).length:Int)-1)) rfl
 refine P (XY n p pB j ((u++([e])).set (((u++([e])).length:Int)-1).toNat e) (e' t e.id (((u++([e])).length:Int)-1)) ((((u++([e])).set (((u++([e])).length:Int)-1).toNat e).length:Int)-1) RH RH RH R (by rw [ol];exact ld)) ?_
 rintro _ _ ⟨rfl,t9,m10,hq11,hk12,hf13,rfl⟩
 have ad:=hq11.trans ad
 have R:=hk12
 have mg:=hf13
 refine aF ?_
 exact aO ⟨_,_,_,a,ad,⟨R,mg.FI (by have au:=ad.length_eq;simp only [ol,eh,e6,fq] at au ⊢;omega)⟩,a⟩
def arT(n p:Nat)(X:Value)(j:Int)(u:List T)(t:List (Int×Int))(e:T)(bA:u.length≤100000)(R:g.hG u t)(dy:(cx t e.id).isSome=false)(Ou:j≤u.length):M prog 263 #[n,e] [ai n [.map (some p),j,X] 294,bF X 7 (u.map T.cells),cw p (Value.int .i64) t] [] (fun m B=>m=.b 6∧B=[]):=by
 refine M.aM func263 a ntmps263 a fun an=>?_
 refine P PJ ?_
 refine aD 2 ?_
 intros
 refine K.kk Tryz.bE aN ?_
 refine aD 0 ?_
 refine aj.n (U.jA BL a) a ?_
 exact cH
def arR(n p:Nat)(X:Value)(j:Int)(u:List T)(t:List (Int×Int))(bA:u.length≤100000)(R:g.hG u t)(bB:0 < u.length):M prog 266 #[n] [] [ai n [.map (some p),j,X] 294,row X 66 7 (u.map T.cells),cw p (Value.int .i64) t] (fun m B=>∃ e eJ cU dF,m=.tuple #[.agg #[.b e.id,.b e.am,.b e.cg,.b e.ck,.b e.eN,.b e.dm,.b e.seq],.bool true]∧u[(0:Int).toNat]?=some e∧u.Perm (e :: cU)∧g.hG cU dF∧B=[ai n [.map (some p),j,eJ] 294,row eJ 66 7 (cU.map T.cells),cw p (Value.int .i64) dF]):=by
 refine M.aM func266 a ntmps266 a fun an=>?_
 refine P PK ?_
 refine I 0 ?_
 intros
 refine K.fZ a (p4 E) ?_
 refine I 0 ?_
 refine P (XX n p X j u t 0 E E E R.ok R.ad) ?_
 exact adO
def arS(n p:Nat)(X:Value)(j:Int)(u:List T)(t:List (Int×Int))(bB:u.length=0):M prog 266 #[n] [ai n [.map (some p),j,X] 294,bF X 7 (u.map T.cells)] [] (fun m B=>m=.tuple #[T.zero,.bool false]∧B=[]):=by
 refine M.aM func266 a ntmps266 a fun an=>?_
 refine P PK ?_
 refine I 0 ?_
 intros
 refine K.lN a (c9 E) ?_
 refine I 2 ?_
 exact cH
def JU(n p:Nat)(X:Value)(j:Int)(u:List T)(t:List (Int×Int))(id:Int)(bA:u.length≤100000)(R:g.hG u t)(W:(cx t id).isSome=true):M prog 265 #[n,id] [] [ai n [.map (some p),j,X] 294,row X 66 7 (u.map T.cells),cw p (Value.int .i64) t] (fun m B=>∃ e eJ cU dF,m=.tuple #[.agg #[.b e.id,.b e.am,.b e.cg,.b e.ck,.b e.eN,.b e.dm,.b e.seq],.bool true]∧e.id=id∧u.Perm (e :: cU)∧g.hG cU dF∧B=[ai n [.map (some p),j,eJ] 294,row eJ 66 7 (cU.map T.cells),cw p (Value.int .i64) dF]):=by
 obtain ⟨C0,oP,nC,V0,CH,alr⟩:=R.EN W
 refine M.aM func265 a ntmps265 a fun an=>?_
 refine I 1 ?_
 intros
 refine w.n (U.jA BL a) a ?_
 refine P Yb ?_
 refine I 0 ?_
 refine K.fZ a (lZ W) ?_
 refine I 0 ?_
 refine P (XX n p X j u t ((cx t id).getD 0) E E E R.ok R.ad) ?_
 rintro _ _ ⟨bG,fd,t5,hP,rfl,hx7,hq8,hk9,rfl⟩
 have Q:=hx7
 have ad:=hq8
 have R:=hk9
 refine aF ?_
 exact aO ⟨_,_,_,_,a,(by rw [show ((cx t id).getD 0).toNat=C0 from by omega,nC] at Q;cases Q;exact V0),ad,R,a⟩
def atP(br:Value)(f:List T)(S:f.length≤100000):M prog 318 #[br,.func (.func 319) #[] #[]] [bF br 7 (f.map T.cells)] [] (fun m B=>∃ (d:Nat) (p:Bool),m=.tuple #[.b (d:Int),.bool p]∧(f≠[]→d < f.length)∧g.pC f f.length d∧B=[]):=by
 refine M.aM func318 a ntmps318 a fun an=>?_
 refine aD 1 ?_
 refine de (bo:=Nat×Nat) (fun (b,d)=>b≤f.length∧(d < b∨b=0∧d=0)∧g.pC f b d) (fun (b,d)=>[(6,.b (d:Int)),(11,.b (b:Int))]) (fun (b,d)=>[]) (fun (b,d)=>f.length-b) ⟨0,0⟩ [0,1,4,5,9,10] ⟨by omega,by omega,g.pC.zero⟩ ?_
 rintro ⟨b,d⟩ ⟨ac,hki,bA⟩
 refine aU ?_ ?_
 refine I 0 ?_
 intros
 obtain ⟨bP,dJ⟩:=c4 (f:=f) (b:=b) E
 refine aD 4 ?_
 intros
 refine K.fD 6 Tryz.bE aN ?_
 refine aD 1 ?_
 obtain ⟨cQ,h3⟩:=c4 (f:=f) (b:=d) E
 refine aD 2 ?_
 refine w.f (aq.dA call319 a a (atN bP cQ) [] a .nil) a ?_
 rintro _ _ ⟨_,⟨rfl,rfl⟩,rfl⟩
 refine I 0 ?_
 refine K.cond a (fun c7=>?_) (fun c7=>?_)
 refine I 1 ?_
 exact da ⟨b+1,b⟩ ⟨by omega,by omega,bA.take bO bO c7⟩
 refine I 1 ?_
 exact da ⟨b+1,d⟩ ⟨by omega,by omega,bA.cc bO bO c7⟩
 refine aF ?_
 intros
 exact aO ⟨d,_,a,(fun au=>by have dx:=GI.2 au;omega),(show b=f.length from by omega) ▸ bA,a⟩
def PX(br:Value)(f:List T)(S:f.length≤100000):M prog 264 #[br] [bF br 7 (f.map T.cells)] [] (fun m B=>∃ (d:Nat) (p:Bool),m=.tuple #[.b (d:Int),.bool p]∧(f≠[]→d < f.length)∧g.pC f f.length d∧B=[]):=by
 refine M.aM func264 a ntmps264 a fun an=>?_
 refine P atP ?_
 rintro _ _ ⟨bJ,j4,rfl,hb3,ht4,rfl⟩
 have vp:=hb3
 have sX:=ht4
 refine aF ?_
 exact aO ⟨_,_,a,vp,sX,a⟩
def yX(A n:Nat)(j:Int):M prog 114 #[A] [ai A [n,j] 206] [] (fun m B=>m=.n n∧B=[]):=by
 refine M.aM func114 a ntmps114 a fun an=>?_
 refine I 0 ?_
 refine w.n (U.jA underlying84 a) a ?_
 exact cH
def asO(A:Nat)(n p:Nat)(X:Value)(j:Int)(u:List T)(t:List (Int×Int))(e:T)(bA:u.length≤99999)(R:g.hG u t)(dy:(cx t e.id).isSome=false)(Ou:u.length < j):M prog 182 #[A,e] [] [ai A [n,j] 206,ai n [.map (some p),j,X] 294,row X 66 7 (u.map T.cells),cw p (Value.int .i64) t] (fun m B=>∃ eJ cU dF,m=.tuple #[T.zero,.bool false,.b 0]∧cU.Perm (e :: u)∧g.hG cU dF∧B=[ai A [n,j] 206,ai n [.map (some p),j,eJ] 294,row eJ 66 7 (cU.map T.cells),cw p (Value.int .i64) dF]):=by
 refine M.aM func182 a ntmps182 a fun an=>?_
 refine P yX ?_
 refine aD 1 ?_
 intros
 refine P JT ?_
 rintro _ _ ⟨fd,t5,hP,rfl,hq7,hk8,rfl⟩
 have ad:=hq7
 have R:=hk8
 refine aF ?_
 exact aO ⟨_,_,_,a,ad,R,a⟩
def asP(A:Nat)(n p:Nat)(X:Value)(j:Int)(u:List T)(t:List (Int×Int))(e:T)(bA:u.length≤99999)(R:g.hG u t)(dy:(cx t e.id).isSome=false)(Ou:j=u.length)(kY:0 < j):M prog 182 #[A,e] [] [ai A [n,j] 206,ai n [.map (some p),j,X] 294,row X 66 7 (u.map T.cells),cw p (Value.int .i64) t] (fun m B=>∃ eJ cU dF F,m=.tuple #[.agg #[.b F.id,.b F.am,.b F.cg,.b F.ck,.b F.eN,.b F.dm,.b F.seq],.bool true,.b 0]∧(F :: cU).Perm (e :: u)∧(∀ aI∈e :: u,g.iL aI F=false)∧g.hG cU dF∧B=[ai A [n,j] 206,ai n [.map (some p),j,eJ] 294,row eJ 66 7 (cU.map T.cells),cw p (Value.int .i64) dF]):=by
 refine M.aM func182 a ntmps182 a fun an=>?_
 refine P yX ?_
 refine P arT ?_
 refine I 0 ?_
 intros
 refine K.aiD Tryz.bE #[false,false,false,false,false,false] a<|b5.take (mq:=#[true,false,false,false,false,false]) 0 a aN aN aN a (U.move a) a ?_
 refine b5.all 1 [2] aN ⟨?_,?_,trivial⟩
 refine aJ.f (mq:=#[true,true,false,false,false,false]) a a (aq.fl call115 (JS n p X j u E) [] a a (.fy 3 a a (.eo 4 jz a a .nil))) a ?_
 rintro aBk _ ⟨_,⟨o5,hq6,hs7,rfl⟩,rfl⟩
 have fw:=hq6
 have q6:=fw.length_eq
 have yz:=hs7
 refine b5.all 2 [] aN ⟨?_,trivial⟩
 refine aJ.A (mq:=#[true,true,true,false,false,false]) a a (aV.nG 2 qL gE a a a) a ?_
 refine b5.all 3 [] aN ⟨?_,trivial⟩
 refine aJ.f (mq:=#[true,true,true,true,false,false]) a a (aq.fs T.cells [e] iR gE qh a a a aN a a) a ?_
 rintro k' _ rfl
 refine b5.all 4 [] aN ⟨?_,trivial⟩
 refine aJ.f (mq:=#[true,true,true,true,true,false]) a a (aq.gg 1 px oc a a a a a (ax.row 0 a) T.one hq hq) a ?_
 rintro pz _ rfl
 refine b5.take (mq:=#[true,true,true,true,true,true]) 5 a aN aN aN a (U.assign a) a<|b5.done aN ?_
 refine P PX ?_
 rintro _ _ ⟨aoz,Tw,rfl,hb13,ht14,rfl⟩
 have vp:=hb13
 have sX:=ht14
 refine I 0 ?_
 have IK:(o5++([e])).length=u.length+1:=by rw [eh,q6];rfl
 have Wt:=vp oU
 refine aU ?_ ?_
 exact R'
 refine I 0 ?_
 intros
 obtain ⟨rG,An⟩:=c4 (f:=o5++([e])) (b:=aoz) E
 refine P (JU n p X j u t rG.id E R (R.gu (fw.mem_iff.1 (eF (by have au:=An;rwa [to E] at au))))) ?_
 rintro _ _ ⟨aBq,Mq,t20,m21,rfl,hx22,hq23,hk24,rfl⟩
 have lU:=R
 have ce:=hx22
 have hu:=hq23
 have R:=hk24
 refine P (JT n p Mq j t20 m21 e DV R (g.Pt lU R dy hu) DV) ?_
 rintro _ _ ⟨Mt,t27,m28,rfl,hq29,hk30,rfl⟩
 have ad:=hq29
 have R:=hk30
 refine aF ?_
 exact aO ⟨_,_,_,rG,a,(g.Dp lU fw An E ce hu ad sX).1,(g.Dp lU fw An E ce hu ad sX).2,R,a⟩
 refine aJ.A (mq:=#[true,false,true,false,false,false]) a a (aV.nG 1 qL gE a a a) a ?_
 refine b5.all 1 [3] aN ⟨?_,?_,trivial⟩
 refine aJ.f (mq:=#[true,true,true,false,false,false]) a a (aq.fl call115 (JS n p X j u E) [] a a (.fy 3 a a (.eo 4 jz a a .nil))) a ?_
 rintro aBh _ ⟨_,⟨o32,hq33,hs34,rfl⟩,rfl⟩
 have fw:=hq33
 have q6:=fw.length_eq
 have yz:=hs34
 refine b5.all 3 [] aN ⟨?_,trivial⟩
 refine aJ.f (mq:=#[true,true,true,true,false,false]) a a (aq.fs T.cells [e] iR gE qh a a a aN a a) a ?_
 rintro aew _ rfl
 refine b5.all 4 [] aN ⟨?_,trivial⟩
 refine aJ.f (mq:=#[true,true,true,true,true,false]) a a (aq.gg 1 px oc a a a a a (ax.row 0 a) T.one hq hq) a ?_
 rintro S7 _ rfl
 refine b5.take (mq:=#[true,true,true,true,true,true]) 5 a aN aN aN a (U.assign a) a<|b5.done aN ?_
 refine P PX ?_
 rintro _ _ ⟨aoF,b39,rfl,hb40,ht41,rfl⟩
 have vp:=hb40
 have sX:=ht41
 refine I 0 ?_
 have IK:(o32++([e])).length=u.length+1:=by rw [eh,q6];rfl
 have Wt:=vp oU
 refine aU ?_ ?_
 exact R'
 refine I 0 ?_
 intros
 obtain ⟨Ul,Oa⟩:=c4 (f:=o32++([e])) (b:=aoF) E
 refine P (JU n p X j u t Ul.id E R (R.gu (fw.mem_iff.1 (eF (by have au:=Oa;rwa [to E] at au))))) ?_
 rintro _ _ ⟨aBr,HH,t47,m48,rfl,hx49,hq50,hk51,rfl⟩
 have lU:=R
 have ce:=hx49
 have hu:=hq50
 have R:=hk51
 refine P (JT n p HH j t47 m48 e DV R (g.Pt lU R dy hu) DV) ?_
 rintro _ _ ⟨axY,t54,m55,rfl,hq56,hk57,rfl⟩
 have ad:=hq56
 have R:=hk57
 refine aF ?_
 exact aO ⟨_,_,_,Ul,a,(g.Dp lU fw Oa E ce hu ad sX).1,(g.Dp lU fw Oa E ce hu ad sX).2,R,a⟩
 refine aJ.f (mq:=#[true,false,true,true,false,false]) a a (aq.fs T.cells [e] iR gE qh a a a aN a a) a ?_
 rintro axZ _ rfl
 refine b5.all 1 [] aN ⟨?_,trivial⟩
 refine aJ.f (mq:=#[true,true,true,true,false,false]) a a (aq.fl call115 (JS n p X j u E) [] a a (.fy 4 a a (.eo 5 jz a a .nil))) a ?_
 rintro aBj _ ⟨_,⟨o60,hq61,hs62,rfl⟩,rfl⟩
 have fw:=hq61
 have q6:=fw.length_eq
 have yz:=hs62
 refine b5.all 4 [] aN ⟨?_,trivial⟩
 refine aJ.f (mq:=#[true,true,true,true,true,false]) a a (aq.gg 0 px oc a a a a a (ax.row 1 a) T.one hq hq) a ?_
 rintro S_ _ rfl
 refine b5.take (mq:=#[true,true,true,true,true,true]) 5 a aN aN aN a (U.assign a) a<|b5.done aN ?_
 refine P PX ?_
 rintro _ _ ⟨aoJ,b66,rfl,hb67,ht68,rfl⟩
 have vp:=hb67
 have sX:=ht68
 refine I 0 ?_
 have IK:(o60++([e])).length=u.length+1:=by rw [eh,q6];rfl
 have Wt:=vp oU
 refine aU ?_ ?_
 exact R'
 refine I 0 ?_
 intros
 obtain ⟨Un,Oc⟩:=c4 (f:=o60++([e])) (b:=aoJ) E
 refine P (JU n p X j u t Un.id E R (R.gu (fw.mem_iff.1 (eF (by have au:=Oc;rwa [to E] at au))))) ?_
 rintro _ _ ⟨aBs,Ta,t74,m75,rfl,hx76,hq77,hk78,rfl⟩
 have lU:=R
 have ce:=hx76
 have hu:=hq77
 have R:=hk78
 refine P (JT n p Ta j t74 m75 e DV R (g.Pt lU R dy hu) DV) ?_
 rintro _ _ ⟨ax0,t81,m82,rfl,hq83,hk84,rfl⟩
 have ad:=hq83
 have R:=hk84
 refine aF ?_
 exact aO ⟨_,_,_,Un,a,(g.Dp lU fw Oc E ce hu ad sX).1,(g.Dp lU fw Oc E ce hu ad sX).2,R,a⟩
end Go.Proofs.YtohjlkjhpibkmaaGreatDoor
