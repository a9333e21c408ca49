/-
  Walks, printed by a program of mine.
-/
import Derived.KernelRfl
import Derived.Test.YtohjlkjhpibkmaaGreatDoorE16
import Derived.Test.YtohjlkjhpibkmaaGreatDoorE13
import Derived.Test.YtohjlkjhpibkmaaGreatDoorE05
set_option linter.all false
namespace Go.Proofs.YtohjlkjhpibkmaaGreatDoor
open Go Go.LK Go.Proofs.Tryz
set_option maxRecDepth 100000
set_option maxHeartbeats 4000000
def AS(L:Nat)(b:Int)(bB:0≤b)(G:b < 7):M prog 225 #[L,b] [] [] (fun m B=>m=.pointer (some ⟨L,0+b.toNat*1,none⟩)∧B=[]):=by
 refine M.aM func225 a ntmps225 a fun an=>?_
 refine aU ?_ ?_
 refine aF ?_
 intros
 exact aO ⟨(by have rS:b=0:=E;subst rS;rfl),a⟩
 refine aU ?_ ?_
 refine aF ?_
 intros
 exact aO ⟨(by have rS:b=1:=E;subst rS;rfl),a⟩
 refine aU ?_ ?_
 refine aF ?_
 intros
 exact aO ⟨(by have rS:b=2:=E;subst rS;rfl),a⟩
 refine aU ?_ ?_
 refine aF ?_
 intros
 exact aO ⟨(by have rS:b=3:=E;subst rS;rfl),a⟩
 refine aU ?_ ?_
 refine aF ?_
 intros
 exact aO ⟨(by have rS:b=4:=E;subst rS;rfl),a⟩
 refine aU ?_ ?_
 refine aF ?_
 intros
 exact aO ⟨(by have rS:b=5:=E;subst rS;rfl),a⟩
 refine aF ?_
 intros
 exact aO ⟨(by have rS:b=6:=E;subst rS;rfl),a⟩
def O5(l p i y r z L:Int)(t:Int):M prog 130 #[.agg #[l,p,i,y,r,z,L],t] [] [] (fun m B=>m=.b (h7.e7 [l,p,i,y,r,z,L] t)∧B=[]):=by
 refine M.aM func130 a ntmps130 a fun an=>?_
 refine aD 1 ?_
 intro b9
 refine aU (fun fp=>?_) (fun fp=>?_)
 refine aF ?_
 exact jX
 refine aU ?_ ?_
 refine aF ?_
 intros
 exact jX
 refine I 1 ?_
 intros
 refine w.n (U.oz [(0,.b 0),(1,.b p)] [.b 0,p] mW xX dt a aN) a<|w.n (U.oz [(0,.b 0),(1,.b 10000)] [.b 0,.b 10000] mW xX dt a aN) a<|w.n (U.oz [(0,.b 1),(1,.b 99)] [.b 1,.b 99] mW xX dt a aN) a<|w.n (U.oz [(0,.b 1),(1,.b 100)] [.b 1,.b 100] mW xX dt a aN) a ?_
 refine I 0 ?_
 refine w.n (U.oz [(0,.b 0),(1,.b t)] [.b 0,t] mW xX dt a aN) a<|w.n (U.oz [(0,.b 1),(1,.b 32)] [.b 1,.b 32] mW xX dt a aN) a<|w.n (U.oz [(0,.b 1),(1,.b 32)] [.b 1,.b 32] mW xX dt a aN) a<|w.n (U.oz [(0,.agg #[.b 0,p]),(1,.agg #[.b 0,.b 10000]),(2,.agg #[.b 1,.b 99]),(3,.agg #[.b 1,.b 100]),(4,.agg #[.b 0,t]),(5,.agg #[.b 1,.b 32]),(6,.agg #[.b 1,.b 32])] [.b 0,p,.b 0,.b 10000,.b 1,.b 99,.b 1,.b 100,.b 0,t,.b 1,.b 32,.b 1,.b 32] xR zeroValue304 wy a aN) a ?_
 refine I 3 ?_
 intros
 refine K.loop (bo:=Nat) (fun c3=>c3≤7∧1≤t∧t≤128∧(1≤c3→0≤l∧l≤p)∧(2≤c3→0≤p∧p≤10000)∧(3≤c3→1≤i∧i≤99)∧(4≤c3→1≤y∧y≤100)∧(5≤c3→0≤r∧r≤t)∧(6≤c3→1≤z∧z≤32)∧(7≤c3→1≤L∧L≤32)) (fun c3=>[(2,.n b9),(26,.agg #[.b 0,p,.b 0,.b 10000,.b 1,.b 99,.b 1,.b 100,.b 0,t,.b 1,.b 32,.b 1,.b 32]),(27,.b (c3:Int))]) (fun c3=>[ai b9 [l,p,i,y,r,z,L] 45]) (fun c3=>7-c3) 0 (show 0≤7∧1≤t∧t≤128∧(1≤0→0≤l∧l≤p)∧(2≤0→0≤p∧p≤10000)∧(3≤0→1≤i∧i≤99)∧(4≤0→1≤y∧y≤100)∧(5≤0→0≤r∧r≤t)∧(6≤0→1≤z∧z≤32)∧(7≤0→1≤L∧L≤32) from ⟨by omega,by omega,by omega,by omega,by omega,by omega,by omega,by omega,by omega,by omega⟩) ⟨a,a,(dz (fun aI=>some (Value.b aI)) (qK:(0:Int)=(0:Int))),trivial⟩ [1] bd a ?_
 rintro d alV
 obtain ⟨R,jv,sR,ep,fu,ux,PP,Yc,asL,aA'⟩:d≤7∧1≤t∧t≤128∧(1≤d→0≤l∧l≤p)∧(2≤d→0≤p∧p≤10000)∧(3≤d→1≤i∧i≤99)∧(4≤d→1≤y∧y≤100)∧(5≤d→0≤r∧r≤t)∧(6≤d→1≤z∧z≤32)∧(7≤d→1≤L∧L≤32):=alV
 show K _ _ [(2,.n b9),(26,.agg #[.b 0,p,.b 0,.b 10000,.b 1,.b 99,.b 1,.b 100,.b 0,t,.b 1,.b 32,.b 1,.b 32]),(27,.b (d:Int))] [ai b9 [l,p,i,y,r,z,L] 45]
 obtain rfl|rfl|rfl|rfl|rfl|rfl|rfl|rfl:d=0∨d=1∨d=2∨d=3∨d=4∨d=5∨d=6∨d=7:=by omega
 show K _ _ [(2,.n b9),(26,.agg #[.b 0,p,.b 0,.b 10000,.b 1,.b 99,.b 1,.b 100,.b 0,t,.b 1,.b 32,.b 1,.b 32]),(27,.b 0)] [ai b9 [l,p,i,y,r,z,L] 45]
 refine I 0 ?_
 refine w.n (U.AP (ay:=[.b 0,p,.b 0,.b 10000,.b 1,.b 99,.b 1,.b 100,.b 0,t,.b 1,.b 32,.b 1,.b 32]) [.b 0,p] xR wy zs a a bd bd a) a ?_
 refine P AS ?_
 refine I 1 ?_
 intros
 refine w.n (U.jx 0 mW dt a a bd bd a) a ?_
 refine aU (fun kM=>?_) (fun kM=>?_)
 refine aF ?_
 exact jX
 refine I 0 ?_
 refine w.el (U.dg (U.jx 1 mW dt a a bd bd a)) a a ?_
 refine aU ?_ ?_
 refine aF ?_
 intros
 exact jX
 refine I 1 ?_
 intros
 exact K.gW 1 (show 1≤7∧1≤t∧t≤128∧(1≤1→0≤l∧l≤p)∧(2≤1→0≤p∧p≤10000)∧(3≤1→1≤i∧i≤99)∧(4≤1→1≤y∧y≤100)∧(5≤1→0≤r∧r≤t)∧(6≤1→1≤z∧z≤32)∧(7≤1→1≤L∧L≤32) from ⟨by omega,by omega,by omega,by omega,by omega,by omega,by omega,by omega,by omega,by omega⟩) (show 7-1 < 7-0 from E) ⟨a,a,(dz (fun aI=>some (Value.b aI)) (qK:(0+1:Int)=(1:Int))),trivial⟩ [1] bd a
 show K _ _ [(2,.n b9),(26,.agg #[.b 0,p,.b 0,.b 10000,.b 1,.b 99,.b 1,.b 100,.b 0,t,.b 1,.b 32,.b 1,.b 32]),(27,.b 1)] [ai b9 [l,p,i,y,r,z,L] 45]
 refine I 0 ?_
 refine w.n (U.AP (ay:=[.b 0,p,.b 0,.b 10000,.b 1,.b 99,.b 1,.b 100,.b 0,t,.b 1,.b 32,.b 1,.b 32]) [.b 0,.b 10000] xR wy zs a a bd bd a) a ?_
 refine P AS ?_
 refine I 1 ?_
 intros
 refine w.n (U.jx 0 mW dt a a bd bd a) a ?_
 refine aU (fun s4=>?_) (fun s4=>?_)
 refine aF ?_
 exact jX
 refine I 0 ?_
 refine w.el (U.dg (U.jx 1 mW dt a a bd bd a)) a a ?_
 refine aU ?_ ?_
 refine aF ?_
 intros
 exact jX
 refine I 1 ?_
 intros
 exact K.gW 2 (show 2≤7∧1≤t∧t≤128∧(1≤2→0≤l∧l≤p)∧(2≤2→0≤p∧p≤10000)∧(3≤2→1≤i∧i≤99)∧(4≤2→1≤y∧y≤100)∧(5≤2→0≤r∧r≤t)∧(6≤2→1≤z∧z≤32)∧(7≤2→1≤L∧L≤32) from ⟨by omega,by omega,by omega,by omega,by omega,by omega,by omega,by omega,by omega,by omega⟩) (show 7-2 < 7-1 from E) ⟨a,a,(dz (fun aI=>some (Value.b aI)) (qK:(1+1:Int)=(2:Int))),trivial⟩ [1] bd a
 show K _ _ [(2,.n b9),(26,.agg #[.b 0,p,.b 0,.b 10000,.b 1,.b 99,.b 1,.b 100,.b 0,t,.b 1,.b 32,.b 1,.b 32]),(27,.b 2)] [ai b9 [l,p,i,y,r,z,L] 45]
 refine I 0 ?_
 refine w.n (U.AP (ay:=[.b 0,p,.b 0,.b 10000,.b 1,.b 99,.b 1,.b 100,.b 0,t,.b 1,.b 32,.b 1,.b 32]) [.b 1,.b 99] xR wy zs a a bd bd a) a ?_
 refine P AS ?_
 refine I 1 ?_
 intros
 refine w.n (U.jx 0 mW dt a a bd bd a) a ?_
 refine aU (fun FV=>?_) (fun FV=>?_)
 refine aF ?_
 exact jX
 refine I 0 ?_
 refine w.el (U.dg (U.jx 1 mW dt a a bd bd a)) a a ?_
 refine aU ?_ ?_
 refine aF ?_
 intros
 exact jX
 refine I 1 ?_
 intros
 exact K.gW 3 (show 3≤7∧1≤t∧t≤128∧(1≤3→0≤l∧l≤p)∧(2≤3→0≤p∧p≤10000)∧(3≤3→1≤i∧i≤99)∧(4≤3→1≤y∧y≤100)∧(5≤3→0≤r∧r≤t)∧(6≤3→1≤z∧z≤32)∧(7≤3→1≤L∧L≤32) from ⟨by omega,by omega,by omega,by omega,by omega,by omega,by omega,by omega,by omega,by omega⟩) (show 7-3 < 7-2 from E) ⟨a,a,(dz (fun aI=>some (Value.b aI)) (qK:(2+1:Int)=(3:Int))),trivial⟩ [1] bd a
 show K _ _ [(2,.n b9),(26,.agg #[.b 0,p,.b 0,.b 10000,.b 1,.b 99,.b 1,.b 100,.b 0,t,.b 1,.b 32,.b 1,.b 32]),(27,.b 3)] [ai b9 [l,p,i,y,r,z,L] 45]
 refine I 0 ?_
 refine w.n (U.AP (ay:=[.b 0,p,.b 0,.b 10000,.b 1,.b 99,.b 1,.b 100,.b 0,t,.b 1,.b 32,.b 1,.b 32]) [.b 1,.b 100] xR wy zs a a bd bd a) a ?_
 refine P AS ?_
 refine I 1 ?_
 intros
 refine w.n (U.jx 0 mW dt a a bd bd a) a ?_
 refine aU (fun JM=>?_) (fun JM=>?_)
 refine aF ?_
 exact jX
 refine I 0 ?_
 refine w.el (U.dg (U.jx 1 mW dt a a bd bd a)) a a ?_
 refine aU ?_ ?_
 refine aF ?_
 intros
 exact jX
 refine I 1 ?_
 intros
 exact K.gW 4 (show 4≤7∧1≤t∧t≤128∧(1≤4→0≤l∧l≤p)∧(2≤4→0≤p∧p≤10000)∧(3≤4→1≤i∧i≤99)∧(4≤4→1≤y∧y≤100)∧(5≤4→0≤r∧r≤t)∧(6≤4→1≤z∧z≤32)∧(7≤4→1≤L∧L≤32) from ⟨by omega,by omega,by omega,by omega,by omega,by omega,by omega,by omega,by omega,by omega⟩) (show 7-4 < 7-3 from E) ⟨a,a,(dz (fun aI=>some (Value.b aI)) (qK:(3+1:Int)=(4:Int))),trivial⟩ [1] bd a
 show K _ _ [(2,.n b9),(26,.agg #[.b 0,p,.b 0,.b 10000,.b 1,.b 99,.b 1,.b 100,.b 0,t,.b 1,.b 32,.b 1,.b 32]),(27,.b 4)] [ai b9 [l,p,i,y,r,z,L] 45]
 refine I 0 ?_
 refine w.n (U.AP (ay:=[.b 0,p,.b 0,.b 10000,.b 1,.b 99,.b 1,.b 100,.b 0,t,.b 1,.b 32,.b 1,.b 32]) [.b 0,t] xR wy zs a a bd bd a) a ?_
 refine P AS ?_
 refine I 1 ?_
 intros
 refine w.n (U.jx 0 mW dt a a bd bd a) a ?_
 refine aU (fun arD=>?_) (fun arD=>?_)
 refine aF ?_
 exact jX
 refine I 0 ?_
 refine w.el (U.dg (U.jx 1 mW dt a a bd bd a)) a a ?_
 refine aU ?_ ?_
 refine aF ?_
 intros
 exact jX
 refine I 1 ?_
 intros
 exact K.gW 5 (show 5≤7∧1≤t∧t≤128∧(1≤5→0≤l∧l≤p)∧(2≤5→0≤p∧p≤10000)∧(3≤5→1≤i∧i≤99)∧(4≤5→1≤y∧y≤100)∧(5≤5→0≤r∧r≤t)∧(6≤5→1≤z∧z≤32)∧(7≤5→1≤L∧L≤32) from ⟨by omega,by omega,by omega,by omega,by omega,by omega,by omega,by omega,by omega,by omega⟩) (show 7-5 < 7-4 from E) ⟨a,a,(dz (fun aI=>some (Value.b aI)) (qK:(4+1:Int)=(5:Int))),trivial⟩ [1] bd a
 show K _ _ [(2,.n b9),(26,.agg #[.b 0,p,.b 0,.b 10000,.b 1,.b 99,.b 1,.b 100,.b 0,t,.b 1,.b 32,.b 1,.b 32]),(27,.b 5)] [ai b9 [l,p,i,y,r,z,L] 45]
 refine I 0 ?_
 refine w.n (U.AP (ay:=[.b 0,p,.b 0,.b 10000,.b 1,.b 99,.b 1,.b 100,.b 0,t,.b 1,.b 32,.b 1,.b 32]) [.b 1,.b 32] xR wy zs a a bd bd a) a ?_
 refine P AS ?_
 refine I 1 ?_
 intros
 refine w.n (U.jx 0 mW dt a a bd bd a) a ?_
 refine aU (fun w9=>?_) (fun w9=>?_)
 refine aF ?_
 exact jX
 refine I 0 ?_
 refine w.el (U.dg (U.jx 1 mW dt a a bd bd a)) a a ?_
 refine aU ?_ ?_
 refine aF ?_
 intros
 exact jX
 refine I 1 ?_
 intros
 exact K.gW 6 (show 6≤7∧1≤t∧t≤128∧(1≤6→0≤l∧l≤p)∧(2≤6→0≤p∧p≤10000)∧(3≤6→1≤i∧i≤99)∧(4≤6→1≤y∧y≤100)∧(5≤6→0≤r∧r≤t)∧(6≤6→1≤z∧z≤32)∧(7≤6→1≤L∧L≤32) from ⟨by omega,by omega,by omega,by omega,by omega,by omega,by omega,by omega,by omega,by omega⟩) (show 7-6 < 7-5 from E) ⟨a,a,(dz (fun aI=>some (Value.b aI)) (qK:(5+1:Int)=(6:Int))),trivial⟩ [1] bd a
 show K _ _ [(2,.n b9),(26,.agg #[.b 0,p,.b 0,.b 10000,.b 1,.b 99,.b 1,.b 100,.b 0,t,.b 1,.b 32,.b 1,.b 32]),(27,.b 6)] [ai b9 [l,p,i,y,r,z,L] 45]
 refine I 0 ?_
 refine w.n (U.AP (ay:=[.b 0,p,.b 0,.b 10000,.b 1,.b 99,.b 1,.b 100,.b 0,t,.b 1,.b 32,.b 1,.b 32]) [.b 1,.b 32] xR wy zs a a bd bd a) a ?_
 refine P AS ?_
 refine I 1 ?_
 intros
 refine w.n (U.jx 0 mW dt a a bd bd a) a ?_
 refine aU (fun arI=>?_) (fun arI=>?_)
 refine aF ?_
 exact jX
 refine I 0 ?_
 refine w.el (U.dg (U.jx 1 mW dt a a bd bd a)) a a ?_
 refine aU ?_ ?_
 refine aF ?_
 intros
 exact jX
 refine I 1 ?_
 intros
 exact K.gW 7 (show 7≤7∧1≤t∧t≤128∧(1≤7→0≤l∧l≤p)∧(2≤7→0≤p∧p≤10000)∧(3≤7→1≤i∧i≤99)∧(4≤7→1≤y∧y≤100)∧(5≤7→0≤r∧r≤t)∧(6≤7→1≤z∧z≤32)∧(7≤7→1≤L∧L≤32) from ⟨by omega,by omega,by omega,by omega,by omega,by omega,by omega,by omega,by omega,by omega⟩) (show 7-7 < 7-6 from E) ⟨a,a,(dz (fun aI=>some (Value.b aI)) (qK:(6+1:Int)=(7:Int))),trivial⟩ [1] bd a
 show K _ _ [(2,.n b9),(26,.agg #[.b 0,p,.b 0,.b 10000,.b 1,.b 99,.b 1,.b 100,.b 0,t,.b 1,.b 32,.b 1,.b 32]),(27,.b 7)] [ai b9 [l,p,i,y,r,z,L] 45]
 refine aF ?_
 exact acQ
end Go.Proofs.YtohjlkjhpibkmaaGreatDoor
