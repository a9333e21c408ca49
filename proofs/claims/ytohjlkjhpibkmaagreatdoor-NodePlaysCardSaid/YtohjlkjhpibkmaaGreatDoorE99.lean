/-
  NodePlays: from the walk to the row and its card.
-/
import Derived.Test.YtohjlkjhpibkmaaGreatDoorE08
import Derived.Test.YtohjlkjhpibkmaaGreatDoorE09
import Derived.Test.YtohjlkjhpibkmaaGreatDoorE10
import Derived.Test.YtohjlkjhpibkmaaGreatDoorE11
import Derived.Test.YtohjlkjhpibkmaaGreatDoorE32
import Derived.ProofKit
set_option linter.all false
namespace Go.Proofs.YtohjlkjhpibkmaaGreatDoor
open Go Go.LK Go.ChangeShapes Go.WideShapes Go.ChangeAt Go.RowKit
def XJ{a:Type}{cB:TypeId×Value→a}{aJ:World}{ay:List Value}(c:dh cB Tryz.prog aJ 45 ay):∃ (bK:Int) (bV:Int) (b8:Int) (bG:Int) (ch:Int) (b':Int) (cf:Int),ay=[.b bK,.b bV,.b b8,.b bG,.b ch,.b b',.b cf]∧(gf.pw [bK,bV,b8,bG,ch,b',cf]):=by
  have bB:dh cB Tryz.prog aJ 3 ((ay.drop 0).take 1):=by
    have au:dh cB Tryz.prog aJ 3 ((ay.drop 0).take (Tryz.prog.cellsOf 3)):=by
      exact c.field Tryz.underlying45 0 _ rfl
    rwa [show Tryz.prog.cellsOf 3=1 by kernel_rfl] at au
  obtain ⟨bK,kl,x4⟩:=bB.int Tryz.underlying3
  have G:dh cB Tryz.prog aJ 3 ((ay.drop 1).take 1):=by
    have au:dh cB Tryz.prog aJ 3 ((ay.drop 1).take (Tryz.prog.cellsOf 3)):=by
      exact c.field Tryz.underlying45 1 _ rfl
    rwa [show Tryz.prog.cellsOf 3=1 by kernel_rfl] at au
  obtain ⟨bV,dQ,is⟩:=G.int Tryz.underlying3
  have J:dh cB Tryz.prog aJ 3 ((ay.drop 2).take 1):=by
    have au:dh cB Tryz.prog aJ 3 ((ay.drop 2).take (Tryz.prog.cellsOf 3)):=by
      exact c.field Tryz.underlying45 2 _ rfl
    rwa [show Tryz.prog.cellsOf 3=1 by kernel_rfl] at au
  obtain ⟨b8,bP,j4⟩:=J.int Tryz.underlying3
  have aA:dh cB Tryz.prog aJ 3 ((ay.drop 3).take 1):=by
    have au:dh cB Tryz.prog aJ 3 ((ay.drop 3).take (Tryz.prog.cellsOf 3)):=by
      exact c.field Tryz.underlying45 3 _ rfl
    rwa [show Tryz.prog.cellsOf 3=1 by kernel_rfl] at au
  obtain ⟨bG,cP,u7⟩:=aA.int Tryz.underlying3
  have aZ:dh cB Tryz.prog aJ 3 ((ay.drop 4).take 1):=by
    have au:dh cB Tryz.prog aJ 3 ((ay.drop 4).take (Tryz.prog.cellsOf 3)):=by
      exact c.field Tryz.underlying45 4 _ rfl
    rwa [show Tryz.prog.cellsOf 3=1 by kernel_rfl] at au
  obtain ⟨ch,cQ,B9⟩:=aZ.int Tryz.underlying3
  have bT:dh cB Tryz.prog aJ 3 ((ay.drop 5).take 1):=by
    have au:dh cB Tryz.prog aJ 3 ((ay.drop 5).take (Tryz.prog.cellsOf 3)):=by
      exact c.field Tryz.underlying45 5 _ rfl
    rwa [show Tryz.prog.cellsOf 3=1 by kernel_rfl] at au
  obtain ⟨b',dZ,B_⟩:=bT.int Tryz.underlying3
  have c7:dh cB Tryz.prog aJ 3 ((ay.drop 6).take 1):=by
    have au:dh cB Tryz.prog aJ 3 ((ay.drop 6).take (Tryz.prog.cellsOf 3)):=by
      exact c.field Tryz.underlying45 6 _ rfl
    rwa [show Tryz.prog.cellsOf 3=1 by kernel_rfl] at au
  obtain ⟨cf,eE,H0⟩:=c7.int Tryz.underlying3
  have hf:gf.pw [bK,bV,b8,bG,ch,b',cf]:=by
    intro e Q
    simp only [fb,oq,or_false] at Q
    rcases Q with rfl|rfl|rfl|rfl|rfl|rfl|rfl<;>assumption
  have aS:ay=[.b bK,.b bV,.b b8,.b bG,.b ch,.b b',.b cf]:=(uI (l:=ay)).symm.trans (by rw [he (t:=1) kl rfl,he (t:=2) dQ rfl,he (t:=3) bP rfl,he (t:=4) cP rfl,he (t:=5) cQ rfl,he (t:=6) dZ rfl,he (t:=7) eE rfl,x7 (t:=7) (by rw [c.len Tryz.underlying45];kernel_rfl)];rfl)
  exact ⟨bK,bV,b8,bG,ch,b',cf,aS,hf⟩
def aro{a:Type}{cB:TypeId×Value→a}{aJ:World}{ay:List Value}(c:dh cB Tryz.prog aJ 136 ay):∃ (bK:Int) (bV:Int) (b8:Int) (bG:Int),ay=[.b bK,.b bV,.b b8,.b bG]∧(gf.pw [bK,bV,b8,bG]):=by
  have bB:dh cB Tryz.prog aJ 3 ((ay.drop 0).take 1):=by
    have au:dh cB Tryz.prog aJ 3 ((ay.drop 0).take (Tryz.prog.cellsOf 3)):=by
      exact c.field Tryz.underlying136 0 _ rfl
    rwa [show Tryz.prog.cellsOf 3=1 by kernel_rfl] at au
  obtain ⟨bK,kl,x4⟩:=bB.int Tryz.underlying3
  have G:dh cB Tryz.prog aJ 3 ((ay.drop 1).take 1):=by
    have au:dh cB Tryz.prog aJ 3 ((ay.drop 1).take (Tryz.prog.cellsOf 3)):=by
      exact c.field Tryz.underlying136 1 _ rfl
    rwa [show Tryz.prog.cellsOf 3=1 by kernel_rfl] at au
  obtain ⟨bV,dQ,is⟩:=G.int Tryz.underlying3
  have J:dh cB Tryz.prog aJ 3 ((ay.drop 2).take 1):=by
    have au:dh cB Tryz.prog aJ 3 ((ay.drop 2).take (Tryz.prog.cellsOf 3)):=by
      exact c.field Tryz.underlying136 2 _ rfl
    rwa [show Tryz.prog.cellsOf 3=1 by kernel_rfl] at au
  obtain ⟨b8,bP,j4⟩:=J.int Tryz.underlying3
  have aA:dh cB Tryz.prog aJ 3 ((ay.drop 3).take 1):=by
    have au:dh cB Tryz.prog aJ 3 ((ay.drop 3).take (Tryz.prog.cellsOf 3)):=by
      exact c.field Tryz.underlying136 3 _ rfl
    rwa [show Tryz.prog.cellsOf 3=1 by kernel_rfl] at au
  obtain ⟨bG,cP,u7⟩:=aA.int Tryz.underlying3
  have hf:gf.pw [bK,bV,b8,bG]:=by
    intro e Q
    simp only [fb,oq,or_false] at Q
    rcases Q with rfl|rfl|rfl|rfl<;>assumption
  have aS:ay=[.b bK,.b bV,.b b8,.b bG]:=(uI (l:=ay)).symm.trans (by rw [he (t:=1) kl rfl,he (t:=2) dQ rfl,he (t:=3) bP rfl,he (t:=4) cP rfl,x7 (t:=4) (by rw [c.len Tryz.underlying136];kernel_rfl)];rfl)
  exact ⟨bK,bV,b8,bG,aS,hf⟩
def aru{a:Type}{cB:TypeId×Value→a}{aJ:World}{ay:List Value}(c:dh cB Tryz.prog aJ 56 ay):∃ (bK:Int) (bV:Int) (b8:Int) (bG:Int) (ch:Int) (b':Int) (cf:Int) (er:Int) (es:Int) (d':Int) (eO:Int) (eP:Int) (eQ:Int) (Bk:Value) (C2:List cG),ay=[.b bK,.b bV,.b b8,.b bG,.b ch,.b b',.b cf,.b er,.b es,.b d',.b eO,.b eP,.b eQ,Bk]∧(gf.pw [bK,bV,b8,bG,ch,b',cf,er,es,d',eO,eP,eQ])∧(oV aJ Bk 4 (C2.map cG.cells))∧(∀ l∈C2,(fun _=>True) l):=by
  have bB:dh cB Tryz.prog aJ 3 ((ay.drop 0).take 1):=by
    have au:dh cB Tryz.prog aJ 3 ((ay.drop 0).take (Tryz.prog.cellsOf 3)):=by
      exact c.field Tryz.underlying56 0 _ rfl
    rwa [show Tryz.prog.cellsOf 3=1 by kernel_rfl] at au
  obtain ⟨bK,kl,x4⟩:=bB.int Tryz.underlying3
  have G:dh cB Tryz.prog aJ 3 ((ay.drop 1).take 1):=by
    have au:dh cB Tryz.prog aJ 3 ((ay.drop 1).take (Tryz.prog.cellsOf 3)):=by
      exact c.field Tryz.underlying56 1 _ rfl
    rwa [show Tryz.prog.cellsOf 3=1 by kernel_rfl] at au
  obtain ⟨bV,dQ,is⟩:=G.int Tryz.underlying3
  have J:dh cB Tryz.prog aJ 3 ((ay.drop 2).take 1):=by
    have au:dh cB Tryz.prog aJ 3 ((ay.drop 2).take (Tryz.prog.cellsOf 3)):=by
      exact c.field Tryz.underlying56 2 _ rfl
    rwa [show Tryz.prog.cellsOf 3=1 by kernel_rfl] at au
  obtain ⟨b8,bP,j4⟩:=J.int Tryz.underlying3
  have aA:dh cB Tryz.prog aJ 3 ((ay.drop 3).take 1):=by
    have au:dh cB Tryz.prog aJ 3 ((ay.drop 3).take (Tryz.prog.cellsOf 3)):=by
      exact c.field Tryz.underlying56 3 _ rfl
    rwa [show Tryz.prog.cellsOf 3=1 by kernel_rfl] at au
  obtain ⟨bG,cP,u7⟩:=aA.int Tryz.underlying3
  have aZ:dh cB Tryz.prog aJ 3 ((ay.drop 4).take 1):=by
    have au:dh cB Tryz.prog aJ 3 ((ay.drop 4).take (Tryz.prog.cellsOf 3)):=by
      exact c.field Tryz.underlying56 4 _ rfl
    rwa [show Tryz.prog.cellsOf 3=1 by kernel_rfl] at au
  obtain ⟨ch,cQ,B9⟩:=aZ.int Tryz.underlying3
  have bT:dh cB Tryz.prog aJ 3 ((ay.drop 5).take 1):=by
    have au:dh cB Tryz.prog aJ 3 ((ay.drop 5).take (Tryz.prog.cellsOf 3)):=by
      exact c.field Tryz.underlying56 5 _ rfl
    rwa [show Tryz.prog.cellsOf 3=1 by kernel_rfl] at au
  obtain ⟨b',dZ,B_⟩:=bT.int Tryz.underlying3
  have c7:dh cB Tryz.prog aJ 45 ((ay.drop 6).take 7):=by
    have au:dh cB Tryz.prog aJ 45 ((ay.drop 6).take (Tryz.prog.cellsOf 45)):=by
      exact c.field Tryz.underlying56 6 _ rfl
    rwa [show Tryz.prog.cellsOf 45=7 by kernel_rfl] at au
  obtain ⟨cf,er,es,d',eO,eP,eQ,eE,z'⟩:=XJ c7
  have H0:gf.ik cf:=z' _ oU
  have H1:gf.ik er:=z' _ oU
  have Tz:gf.ik es:=z' _ oU
  have agX:gf.ik d':=z' _ oU
  have agT:gf.ik eO:=z' _ oU
  have agU:gf.ik eP:=z' _ oU
  have Tw:gf.ik eQ:=z' _ oU
  have gi:dh cB Tryz.prog aJ 54 ((ay.drop 13).take 1):=by
    have au:dh cB Tryz.prog aJ 54 ((ay.drop 13).take (Tryz.prog.cellsOf 54)):=by
      exact c.field Tryz.underlying56 7 _ rfl
    rwa [show Tryz.prog.cellsOf 54=1 by kernel_rfl] at au
  obtain ⟨Bk,aAW,na,wb,as9⟩:=gi.slice 4 bd Tryz.underlying54 aN
  obtain ⟨C2,rfl,PO⟩:=Jf (z:=cG.cells) (cz:=fun _=>True) fun p av=>(by obtain ⟨bK,bV,b8,bG,zV,FhI⟩:=aro (as9 p av);exact ⟨⟨bK,bV,b8,bG⟩,zV,trivial⟩)
  have hf:gf.pw [bK,bV,b8,bG,ch,b',cf,er,es,d',eO,eP,eQ]:=by
    intro e Q
    simp only [fb,oq,or_false] at Q
    rcases Q with rfl|rfl|rfl|rfl|rfl|rfl|rfl|rfl|rfl|rfl|rfl|rfl|rfl<;>assumption
  have aS:ay=[.b bK,.b bV,.b b8,.b bG,.b ch,.b b',.b cf,.b er,.b es,.b d',.b eO,.b eP,.b eQ,Bk]:=(uI (l:=ay)).symm.trans (by rw [he (t:=1) kl rfl,he (t:=2) dQ rfl,he (t:=3) bP rfl,he (t:=4) cP rfl,he (t:=5) cQ rfl,he (t:=6) dZ rfl,he (t:=13) eE rfl,he (t:=14) na rfl,x7 (t:=14) (by rw [c.len Tryz.underlying56];kernel_rfl)];rfl)
  exact ⟨bK,bV,b8,bG,ch,b',cf,er,es,d',eO,eP,eQ,Bk,C2,aS,hf,wb,PO⟩
def arp{a:Type}{cB:TypeId×Value→a}{aJ:World}{ay:List Value}(c:dh cB Tryz.prog aJ 25 ay):∃ (bK:Int) (bV:Int) (b8:Int) (bG:Nat) (p2:Value) (Jd:List cj),ay=[.b bK,.b bV,.b b8,.int .u64 (bG:Int),p2]∧(gf.pw [bK,bV,b8])∧(bG < 18446744073709551616)∧(oV aJ p2 14 (Jd.map cj.cells))∧(∀ l∈Jd,(fun H=>oV aJ H.dA 4 (H.cW.map cG.cells)) l):=by
  have bB:dh cB Tryz.prog aJ 3 ((ay.drop 0).take 1):=by
    have au:dh cB Tryz.prog aJ 3 ((ay.drop 0).take (Tryz.prog.cellsOf 3)):=by
      exact c.field Tryz.underlying25 0 _ rfl
    rwa [show Tryz.prog.cellsOf 3=1 by kernel_rfl] at au
  obtain ⟨bK,kl,x4⟩:=bB.int Tryz.underlying3
  have G:dh cB Tryz.prog aJ 3 ((ay.drop 1).take 1):=by
    have au:dh cB Tryz.prog aJ 3 ((ay.drop 1).take (Tryz.prog.cellsOf 3)):=by
      exact c.field Tryz.underlying25 1 _ rfl
    rwa [show Tryz.prog.cellsOf 3=1 by kernel_rfl] at au
  obtain ⟨bV,dQ,is⟩:=G.int Tryz.underlying3
  have J:dh cB Tryz.prog aJ 3 ((ay.drop 2).take 1):=by
    have au:dh cB Tryz.prog aJ 3 ((ay.drop 2).take (Tryz.prog.cellsOf 3)):=by
      exact c.field Tryz.underlying25 2 _ rfl
    rwa [show Tryz.prog.cellsOf 3=1 by kernel_rfl] at au
  obtain ⟨b8,bP,j4⟩:=J.int Tryz.underlying3
  have aA:dh cB Tryz.prog aJ 22 ((ay.drop 3).take 1):=by
    have au:dh cB Tryz.prog aJ 22 ((ay.drop 3).take (Tryz.prog.cellsOf 22)):=by
      exact c.field Tryz.underlying25 3 _ rfl
    rwa [show Tryz.prog.cellsOf 22=1 by kernel_rfl] at au
  obtain ⟨bG,cP,u7⟩:=aA.u64 Tryz.underlying22
  have aZ:dh cB Tryz.prog aJ 23 ((ay.drop 4).take 1):=by
    have au:dh cB Tryz.prog aJ 23 ((ay.drop 4).take (Tryz.prog.cellsOf 23)):=by
      exact c.field Tryz.underlying25 4 _ rfl
    rwa [show Tryz.prog.cellsOf 23=1 by kernel_rfl] at au
  obtain ⟨p2,im,cQ,xJ,uA⟩:=aZ.slice 14 bd Tryz.underlying23 aN
  obtain ⟨Jd,rfl,PP⟩:=Jf (z:=cj.cells) (cz:=fun H=>oV aJ H.dA 4 (H.cW.map cG.cells)) fun p av=>(by obtain ⟨bK,bV,b8,bG,ch,b',cf,er,es,d',eO,eP,eQ,Bk,C2,zV,FhI,FE13,Fq13⟩:=aru (uA p av);exact ⟨⟨bK,bV,b8,bG,ch,b',cf,er,es,d',eO,eP,eQ,Bk,C2,zW FE13⟩,zV,FE13⟩)
  have hf:gf.pw [bK,bV,b8]:=by
    intro e Q
    simp only [fb,oq,or_false] at Q
    rcases Q with rfl|rfl|rfl<;>assumption
  have aS:ay=[.b bK,.b bV,.b b8,.int .u64 (bG:Int),p2]:=(uI (l:=ay)).symm.trans (by rw [he (t:=1) kl rfl,he (t:=2) dQ rfl,he (t:=3) bP rfl,he (t:=4) cP rfl,he (t:=5) cQ rfl,x7 (t:=5) (by rw [c.len Tryz.underlying25];kernel_rfl)];rfl)
  exact ⟨bK,bV,b8,bG,p2,Jd,aS,hf,u7,xJ,PP⟩
def arq{a:Type}{cB:TypeId×Value→a}{aJ:World}{ay:List Value}(c:dh cB Tryz.prog aJ 41 ay):∃ (bK:Int) (bV:Int) (b8:Int) (bG:Int) (ch:Int) (b':Int),ay=[.b bK,.b bV,.b b8,.b bG,.b ch,.b b']∧(gf.pw [bK,bV,b8,bG,ch,b']):=by
  have bB:dh cB Tryz.prog aJ 3 ((ay.drop 0).take 1):=by
    have au:dh cB Tryz.prog aJ 3 ((ay.drop 0).take (Tryz.prog.cellsOf 3)):=by
      exact c.field Tryz.underlying41 0 _ rfl
    rwa [show Tryz.prog.cellsOf 3=1 by kernel_rfl] at au
  obtain ⟨bK,kl,x4⟩:=bB.int Tryz.underlying3
  have G:dh cB Tryz.prog aJ 3 ((ay.drop 1).take 1):=by
    have au:dh cB Tryz.prog aJ 3 ((ay.drop 1).take (Tryz.prog.cellsOf 3)):=by
      exact c.field Tryz.underlying41 1 _ rfl
    rwa [show Tryz.prog.cellsOf 3=1 by kernel_rfl] at au
  obtain ⟨bV,dQ,is⟩:=G.int Tryz.underlying3
  have J:dh cB Tryz.prog aJ 3 ((ay.drop 2).take 1):=by
    have au:dh cB Tryz.prog aJ 3 ((ay.drop 2).take (Tryz.prog.cellsOf 3)):=by
      exact c.field Tryz.underlying41 2 _ rfl
    rwa [show Tryz.prog.cellsOf 3=1 by kernel_rfl] at au
  obtain ⟨b8,bP,j4⟩:=J.int Tryz.underlying3
  have aA:dh cB Tryz.prog aJ 3 ((ay.drop 3).take 1):=by
    have au:dh cB Tryz.prog aJ 3 ((ay.drop 3).take (Tryz.prog.cellsOf 3)):=by
      exact c.field Tryz.underlying41 3 _ rfl
    rwa [show Tryz.prog.cellsOf 3=1 by kernel_rfl] at au
  obtain ⟨bG,cP,u7⟩:=aA.int Tryz.underlying3
  have aZ:dh cB Tryz.prog aJ 3 ((ay.drop 4).take 1):=by
    have au:dh cB Tryz.prog aJ 3 ((ay.drop 4).take (Tryz.prog.cellsOf 3)):=by
      exact c.field Tryz.underlying41 4 _ rfl
    rwa [show Tryz.prog.cellsOf 3=1 by kernel_rfl] at au
  obtain ⟨ch,cQ,B9⟩:=aZ.int Tryz.underlying3
  have bT:dh cB Tryz.prog aJ 3 ((ay.drop 5).take 1):=by
    have au:dh cB Tryz.prog aJ 3 ((ay.drop 5).take (Tryz.prog.cellsOf 3)):=by
      exact c.field Tryz.underlying41 5 _ rfl
    rwa [show Tryz.prog.cellsOf 3=1 by kernel_rfl] at au
  obtain ⟨b',dZ,B_⟩:=bT.int Tryz.underlying3
  have hf:gf.pw [bK,bV,b8,bG,ch,b']:=by
    intro e Q
    simp only [fb,oq,or_false] at Q
    rcases Q with rfl|rfl|rfl|rfl|rfl|rfl<;>assumption
  have aS:ay=[.b bK,.b bV,.b b8,.b bG,.b ch,.b b']:=(uI (l:=ay)).symm.trans (by rw [he (t:=1) kl rfl,he (t:=2) dQ rfl,he (t:=3) bP rfl,he (t:=4) cP rfl,he (t:=5) cQ rfl,he (t:=6) dZ rfl,x7 (t:=6) (by rw [c.len Tryz.underlying41];kernel_rfl)];rfl)
  exact ⟨bK,bV,b8,bG,ch,b',aS,hf⟩
def arr{a:Type}{cB:TypeId×Value→a}{aJ:World}{ay:List Value}(c:dh cB Tryz.prog aJ 43 ay):∃ (bK:Int) (bV:Int) (b8:Int) (bG:Int) (ch:Int) (b':Int) (cf:Int),ay=[.b bK,.b bV,.b b8,.b bG,.b ch,.b b',.b cf]∧(gf.pw [bK,bV,b8,bG,ch,b',cf]):=by
  have bB:dh cB Tryz.prog aJ 3 ((ay.drop 0).take 1):=by
    have au:dh cB Tryz.prog aJ 3 ((ay.drop 0).take (Tryz.prog.cellsOf 3)):=by
      exact c.field Tryz.underlying43 0 _ rfl
    rwa [show Tryz.prog.cellsOf 3=1 by kernel_rfl] at au
  obtain ⟨bK,kl,x4⟩:=bB.int Tryz.underlying3
  have G:dh cB Tryz.prog aJ 3 ((ay.drop 1).take 1):=by
    have au:dh cB Tryz.prog aJ 3 ((ay.drop 1).take (Tryz.prog.cellsOf 3)):=by
      exact c.field Tryz.underlying43 1 _ rfl
    rwa [show Tryz.prog.cellsOf 3=1 by kernel_rfl] at au
  obtain ⟨bV,dQ,is⟩:=G.int Tryz.underlying3
  have J:dh cB Tryz.prog aJ 3 ((ay.drop 2).take 1):=by
    have au:dh cB Tryz.prog aJ 3 ((ay.drop 2).take (Tryz.prog.cellsOf 3)):=by
      exact c.field Tryz.underlying43 2 _ rfl
    rwa [show Tryz.prog.cellsOf 3=1 by kernel_rfl] at au
  obtain ⟨b8,bP,j4⟩:=J.int Tryz.underlying3
  have aA:dh cB Tryz.prog aJ 3 ((ay.drop 3).take 1):=by
    have au:dh cB Tryz.prog aJ 3 ((ay.drop 3).take (Tryz.prog.cellsOf 3)):=by
      exact c.field Tryz.underlying43 3 _ rfl
    rwa [show Tryz.prog.cellsOf 3=1 by kernel_rfl] at au
  obtain ⟨bG,cP,u7⟩:=aA.int Tryz.underlying3
  have aZ:dh cB Tryz.prog aJ 3 ((ay.drop 4).take 1):=by
    have au:dh cB Tryz.prog aJ 3 ((ay.drop 4).take (Tryz.prog.cellsOf 3)):=by
      exact c.field Tryz.underlying43 4 _ rfl
    rwa [show Tryz.prog.cellsOf 3=1 by kernel_rfl] at au
  obtain ⟨ch,cQ,B9⟩:=aZ.int Tryz.underlying3
  have bT:dh cB Tryz.prog aJ 3 ((ay.drop 5).take 1):=by
    have au:dh cB Tryz.prog aJ 3 ((ay.drop 5).take (Tryz.prog.cellsOf 3)):=by
      exact c.field Tryz.underlying43 5 _ rfl
    rwa [show Tryz.prog.cellsOf 3=1 by kernel_rfl] at au
  obtain ⟨b',dZ,B_⟩:=bT.int Tryz.underlying3
  have c7:dh cB Tryz.prog aJ 3 ((ay.drop 6).take 1):=by
    have au:dh cB Tryz.prog aJ 3 ((ay.drop 6).take (Tryz.prog.cellsOf 3)):=by
      exact c.field Tryz.underlying43 6 _ rfl
    rwa [show Tryz.prog.cellsOf 3=1 by kernel_rfl] at au
  obtain ⟨cf,eE,H0⟩:=c7.int Tryz.underlying3
  have hf:gf.pw [bK,bV,b8,bG,ch,b',cf]:=by
    intro e Q
    simp only [fb,oq,or_false] at Q
    rcases Q with rfl|rfl|rfl|rfl|rfl|rfl|rfl<;>assumption
  have aS:ay=[.b bK,.b bV,.b b8,.b bG,.b ch,.b b',.b cf]:=(uI (l:=ay)).symm.trans (by rw [he (t:=1) kl rfl,he (t:=2) dQ rfl,he (t:=3) bP rfl,he (t:=4) cP rfl,he (t:=5) cQ rfl,he (t:=6) dZ rfl,he (t:=7) eE rfl,x7 (t:=7) (by rw [c.len Tryz.underlying43];kernel_rfl)];rfl)
  exact ⟨bK,bV,b8,bG,ch,b',cf,aS,hf⟩
def ars{a:Type}{cB:TypeId×Value→a}{aJ:World}{ay:List Value}(c:dh cB Tryz.prog aJ 47 ay):∃ (bK:Int) (bV:Int) (b8:Int) (bG:Int) (ch:Int) (b':Int) (cf:Int) (er:Int) (es:Int),ay=[.b bK,.b bV,.b b8,.b bG,.b ch,.b b',.b cf,.b er,.b es]∧(gf.pw [bK,bV,b8,bG,ch,b',cf,er,es]):=by
  have bB:dh cB Tryz.prog aJ 3 ((ay.drop 0).take 1):=by
    have au:dh cB Tryz.prog aJ 3 ((ay.drop 0).take (Tryz.prog.cellsOf 3)):=by
      exact c.field Tryz.underlying47 0 _ rfl
    rwa [show Tryz.prog.cellsOf 3=1 by kernel_rfl] at au
  obtain ⟨bK,kl,x4⟩:=bB.int Tryz.underlying3
  have G:dh cB Tryz.prog aJ 3 ((ay.drop 1).take 1):=by
    have au:dh cB Tryz.prog aJ 3 ((ay.drop 1).take (Tryz.prog.cellsOf 3)):=by
      exact c.field Tryz.underlying47 1 _ rfl
    rwa [show Tryz.prog.cellsOf 3=1 by kernel_rfl] at au
  obtain ⟨bV,dQ,is⟩:=G.int Tryz.underlying3
  have J:dh cB Tryz.prog aJ 45 ((ay.drop 2).take 7):=by
    have au:dh cB Tryz.prog aJ 45 ((ay.drop 2).take (Tryz.prog.cellsOf 45)):=by
      exact c.field Tryz.underlying47 2 _ rfl
    rwa [show Tryz.prog.cellsOf 45=7 by kernel_rfl] at au
  obtain ⟨b8,bG,ch,b',cf,er,es,bP,qZ⟩:=XJ J
  have j4:gf.ik b8:=qZ _ oU
  have u7:gf.ik bG:=qZ _ oU
  have B9:gf.ik ch:=qZ _ oU
  have B_:gf.ik b':=qZ _ oU
  have H0:gf.ik cf:=qZ _ oU
  have H1:gf.ik er:=qZ _ oU
  have Tz:gf.ik es:=qZ _ oU
  have hf:gf.pw [bK,bV,b8,bG,ch,b',cf,er,es]:=by
    intro e Q
    simp only [fb,oq,or_false] at Q
    rcases Q with rfl|rfl|rfl|rfl|rfl|rfl|rfl|rfl|rfl<;>assumption
  have aS:ay=[.b bK,.b bV,.b b8,.b bG,.b ch,.b b',.b cf,.b er,.b es]:=(uI (l:=ay)).symm.trans (by rw [he (t:=1) kl rfl,he (t:=2) dQ rfl,he (t:=9) bP rfl,x7 (t:=9) (by rw [c.len Tryz.underlying47];kernel_rfl)];rfl)
  exact ⟨bK,bV,b8,bG,ch,b',cf,er,es,aS,hf⟩
def art{a:Type}{cB:TypeId×Value→a}{aJ:World}{ay:List Value}(c:dh cB Tryz.prog aJ 49 ay):∃ (bK:Int) (bV:Int) (b8:Int) (bG:Int) (ch:Int) (b':Int) (cf:Int) (er:Int) (es:Int) (d':Int) (eO:Int) (eP:Int) (eQ:Int) (xn:Int) (oO:Int) (xo:Int) (xp:Int) (vR:Int) (xq:Int) (xr:Int) (xs:Int) (xt:Int) (xu:Int) (xv:Int),ay=[.b bK,.b bV,.b b8,.b bG,.b ch,.b b',.b cf,.b er,.b es,.b d',.b eO,.b eP,.b eQ,.b xn,.b oO,.b xo,.b xp,.b vR,.b xq,.b xr,.b xs,.b xt,.b xu,.b xv]∧(gf.pw [bK,bV,b8,bG,ch,b',cf,er,es,d',eO,eP,eQ,xn,oO,xo,xp,vR,xq,xr,xs,xt,xu,xv]):=by
  have bB:dh cB Tryz.prog aJ 3 ((ay.drop 0).take 1):=by
    have au:dh cB Tryz.prog aJ 3 ((ay.drop 0).take (Tryz.prog.cellsOf 3)):=by
      exact c.field Tryz.underlying49 0 _ rfl
    rwa [show Tryz.prog.cellsOf 3=1 by kernel_rfl] at au
  obtain ⟨bK,kl,x4⟩:=bB.int Tryz.underlying3
  have G:dh cB Tryz.prog aJ 3 ((ay.drop 1).take 1):=by
    have au:dh cB Tryz.prog aJ 3 ((ay.drop 1).take (Tryz.prog.cellsOf 3)):=by
      exact c.field Tryz.underlying49 1 _ rfl
    rwa [show Tryz.prog.cellsOf 3=1 by kernel_rfl] at au
  obtain ⟨bV,dQ,is⟩:=G.int Tryz.underlying3
  have J:dh cB Tryz.prog aJ 41 ((ay.drop 2).take 6):=by
    have au:dh cB Tryz.prog aJ 41 ((ay.drop 2).take (Tryz.prog.cellsOf 41)):=by
      exact c.field Tryz.underlying49 2 _ rfl
    rwa [show Tryz.prog.cellsOf 41=6 by kernel_rfl] at au
  obtain ⟨b8,bG,ch,b',cf,er,bP,qZ⟩:=arq J
  have j4:gf.ik b8:=qZ _ oU
  have u7:gf.ik bG:=qZ _ oU
  have B9:gf.ik ch:=qZ _ oU
  have B_:gf.ik b':=qZ _ oU
  have H0:gf.ik cf:=qZ _ oU
  have H1:gf.ik er:=qZ _ oU
  have aA:dh cB Tryz.prog aJ 43 ((ay.drop 8).take 7):=by
    have au:dh cB Tryz.prog aJ 43 ((ay.drop 8).take (Tryz.prog.cellsOf 43)):=by
      exact c.field Tryz.underlying49 3 _ rfl
    rwa [show Tryz.prog.cellsOf 43=7 by kernel_rfl] at au
  obtain ⟨es,d',eO,eP,eQ,xn,oO,cP,z_⟩:=arr aA
  have Tz:gf.ik es:=z_ _ oU
  have agX:gf.ik d':=z_ _ oU
  have agT:gf.ik eO:=z_ _ oU
  have agU:gf.ik eP:=z_ _ oU
  have Tw:gf.ik eQ:=z_ _ oU
  have ax5:gf.ik xn:=z_ _ oU
  have ax6:gf.ik oO:=z_ _ oU
  have aZ:dh cB Tryz.prog aJ 47 ((ay.drop 15).take 9):=by
    have au:dh cB Tryz.prog aJ 47 ((ay.drop 15).take (Tryz.prog.cellsOf 47)):=by
      exact c.field Tryz.underlying49 4 _ rfl
    rwa [show Tryz.prog.cellsOf 47=9 by kernel_rfl] at au
  obtain ⟨xo,xp,vR,xq,xr,xs,xt,xu,xv,cQ,wN⟩:=ars aZ
  have ax7:gf.ik xo:=wN _ oU
  have ax8:gf.ik xp:=wN _ oU
  have ax9:gf.ik vR:=wN _ oU
  have ax_:gf.ik xq:=wN _ oU
  have ax':gf.ik xr:=wN _ oU
  have aya:gf.ik xs:=wN _ oU
  have ayb:gf.ik xt:=wN _ oU
  have Tx:gf.ik xu:=wN _ oU
  have agV:gf.ik xv:=wN _ oU
  have hf:gf.pw [bK,bV,b8,bG,ch,b',cf,er,es,d',eO,eP,eQ,xn,oO,xo,xp,vR,xq,xr,xs,xt,xu,xv]:=by
    intro e Q
    simp only [fb,oq,or_false] at Q
    rcases Q with rfl|rfl|rfl|rfl|rfl|rfl|rfl|rfl|rfl|rfl|rfl|rfl|rfl|rfl|rfl|rfl|rfl|rfl|rfl|rfl|rfl|rfl|rfl|rfl<;>assumption
  have aS:ay=[.b bK,.b bV,.b b8,.b bG,.b ch,.b b',.b cf,.b er,.b es,.b d',.b eO,.b eP,.b eQ,.b xn,.b oO,.b xo,.b xp,.b vR,.b xq,.b xr,.b xs,.b xt,.b xu,.b xv]:=(uI (l:=ay)).symm.trans (by rw [he (t:=1) kl rfl,he (t:=2) dQ rfl,he (t:=8) bP rfl,he (t:=15) cP rfl,he (t:=24) cQ rfl,x7 (t:=24) (by rw [c.len Tryz.underlying49];kernel_rfl)];rfl)
  exact ⟨bK,bV,b8,bG,ch,b',cf,er,es,d',eO,eP,eQ,xn,oO,xo,xp,vR,xq,xr,xs,xt,xu,xv,aS,hf⟩
set_option maxRecDepth 100000 in
def aqy(os:Os)(Gq:os.Started)(a:Type)(cB:TypeId×Value→a) :
    ReturnsInHanded {} Tryz.checked os 7 .any (fun j args=>(Rows.nodePlaysSpec.pre cB Tryz.prog Tryz.f7 [] false j args∧laidMetH Tryz.prog yF j)∧sizedMet cB Tryz.prog Tryz.f7 (OpenSpec.ofChange Rows.nodePlaysSpec) false j args) (Rows.nodePlaysSpec.post cB Tryz.prog Tryz.f7 false true false false):=by
  refine ao5 (cO:=Tryz.checked) (bo:=fun j _=>laidMetH Tryz.prog yF j) (fun _ _ _ d_ c=>c.of_heap d_) Tryz.fy Gq aN Tryz.func7
    (ChangeSpec.witness_shaped (enc:=cB) (C:=Tryz.checked) (os:=os) (X:=fun j _=>laidMetH Tryz.prog yF j) false (World.laidAll Tryz.prog os yF) #[.agg #[.b 0,.b 0,.b 0,.int .u64 0,.slice none 0 0],.b 0,.slice none 0 0] 8 (World.laidAll_os _ _ _) (World.shaped_of_ZipB aN aN) aN aN aN (aiC os _)) ?_
  intro aJ B' args fQ It kz Ws ix dv yy
  have CS:∀ (k:Nat) u m,Tryz.f7.params[k]?=some u→args[k]?=some m→Value.okWide Tryz.prog aJ .any B' u m:=Ws
  have aj':=ix
  obtain ⟨n,A,Iy,kn,rfl,yr,gv⟩:=ix
  have bI:DataW.TrodAll cB Tryz.prog aJ 0 (fun _=>true) true Tryz.f7.params.toList args.toList fQ n:=Iy
  rw [Tryz.params7] at bI CS
  obtain ⟨vN,ti,iK,ayf,ayg,Ub,rb,eC,fp,rfl,rfl,rfl,bB,G,J⟩:=trodAll_three bI
  obtain ⟨rfl,rfl⟩:=trodVars_none kn
  have jv:=ara yy dv
  have sR:=arb yy dv
  clear yr gv Iy Ws
  obtain ⟨aag,aah,aai,aaj,ZO,aoZ,E',azj,ayc,Sy,asK⟩:=arp (dh.eo bB)
  have gB:vN=.agg #[aag,aah,aai,.int .u64 (aaj:Int),ZO]:=by
    obtain ⟨ayd,rfl,_⟩:=okWide_struct Tryz.underlying25 (CS 0 25 vN rfl rfl)
    exact agm E'
  subst gB
  obtain ⟨bV,rfl,rfl,rfl,aBm⟩:=open_int Tryz.underlying3 (CS 1 3 ti rfl rfl) G
  obtain ⟨aBe,e9,bP,Hn,r9⟩:=(dh.eo J).slice 24 bd Tryz.underlying26 aN
  obtain rfl:=arn (ap0 (okWide_slice Tryz.underlying26 (CS 2 26 iK rfl rfl))) bP
  obtain ⟨C3,rfl,fu⟩:=Jf (z:=ou.cells) (cz:=fun _=>True) fun p av=>(by obtain ⟨bK,bV,b8,bG,ch,b',cf,er,es,d',eO,eP,eQ,xn,oO,xo,xp,vR,xq,xr,xs,xt,xu,xv,zV,FhI⟩:=art (r9 p av);exact ⟨⟨bK,bV,b8,bG,ch,b',cf,er,es,d',eO,eP,eQ,xn,oO,xo,xp,vR,xq,xr,xs,xt,xu,xv⟩,zV,trivial⟩)
  refine (M.ao4 (aoW aag aah aai aaj ZO aoZ bV iK C3 (zW Sy)) aJ (by intro ar bI;simp only [fb,oq,or_false] at bI;rcases bI with rfl|rfl|rfl|rfl|rfl<;>first|exact Sy|exact Hn|exact (fun ar bI=>by obtain ⟨oP,nC,rfl⟩:=bx.1 bI;exact asK oP nC)|exact jv|exact sR)).mono fun r dY ⟨aC,av⟩=>?_
  subst aC
  exact ⟨_,rfl,asD Tryz.W9 aj' rfl rfl rfl Tryz.underlying4 (by rw [Tryz.params7];exact cm.2 ⟨⟨by kernel_rfl,dp aN⟩,cm.2 ⟨⟨by kernel_rfl,dp aN⟩,cm.2 ⟨⟨by kernel_rfl,dp aN⟩,List.forall_mem_nil _⟩⟩⟩) av⟩
def jF{l p:Bool}(V:l=true)(av:p=true):(l&&p)=true:=by rw [V,av];rfl
def ap4:(Rows.nodePlaysRow.wf (OpenSpec.ofChange Rows.nodePlaysSpec))=true:=by kernel_rfl
def ap5:(laidOutB Tryz.prog)=true:=Tryz.W9
def aqp:(Tryz.f7.params.all (Tryz.prog.readableRec ·))=true:=by kernel_rfl
def aqs:(namedTie Tryz.prog Rows.nodePlaysRow.named Rows.nodePlaysSpec.vars)=true:=by kernel_rfl
def aqt:(Rows.nodePlaysRow.stops == [])=true:=by kernel_rfl
def aqu:(Tryz.prog.stops == [])=true:=by kernel_rfl
def aqv:(Rows.nodePlaysRow.knobs == [])=true:=by kernel_rfl
def aqw:(Tryz.prog.stopKnobs == [])=true:=by kernel_rfl
def ap9:(Rows.nodePlaysRow.maps == (Tryz.f7.params.toList++Rows.nodePlaysSpec.plain.varTypes Tryz.prog).any (Tryz.prog.mapsRec ·))=true:=by kernel_rfl
def ap_:(Rows.nodePlaysRow.ifaces == (Tryz.f7.params.toList++Rows.nodePlaysSpec.plain.varTypes Tryz.prog).any (Tryz.prog.ifacesRec ·))=true:=by kernel_rfl
def ap':(Rows.nodePlaysRow.mapsOut == Tryz.prog.mapsAmong Tryz.f7.resultTypes.toList)=true:=by kernel_rfl
def aqa:(Rows.nodePlaysRow.loops == (Tryz.f7.params.toList++Rows.nodePlaysSpec.plain.varTypes Tryz.prog).any (Tryz.prog.loopsFrom ·))=true:=by kernel_rfl
def aqb:(Rows.nodePlaysRow.wideKeys == (Tryz.f7.params.toList++Rows.nodePlaysSpec.plain.varTypes Tryz.prog++Tryz.f7.resultTypes.toList).any (Tryz.prog.wideKeysFrom ·))=true:=by kernel_rfl
def aqc:(Rows.nodePlaysSpec.vars.all (Tryz.prog.varReadable ·))=true:=by kernel_rfl
def aqd:(Tryz.f7.resultTypes.all (fun u=>Tryz.prog.readableRec u&&decide (u < Tryz.prog.types.size)))=true:=by kernel_rfl
def aqf:(Rows.nodePlaysRow.ifacesOut == Tryz.f7.resultTypes.toList.any (Tryz.prog.ifacesRec ·))=true:=by kernel_rfl
def aqg:(Rows.nodePlaysRow.loopsOut == Tryz.f7.resultTypes.toList.any (Tryz.prog.loopsFrom ·))=true:=by kernel_rfl
def aqi:(Rows.nodePlaysRow.shortTexts.isNone)=true:=by kernel_rfl
def aqn:(Rows.nodePlaysRow.kinds == (if Rows.nodePlaysRow.domain.isEmpty then [] else Tryz.f7.params.toList.map fun u=>match Tryz.prog.underlying u with|some (.int d)=>some d|_=>none))=true:=by kernel_rfl
def aqo:(Rows.nodePlaysRow.pinned == Rows.nodePlaysRow.pinnedBy)=true:=by kernel_rfl
def aqq:(Rows.nodePlaysRow.veiled == (Tryz.f7.params.toList++Rows.nodePlaysSpec.plain.varTypes Tryz.prog++Tryz.f7.resultTypes.toList).any (Tryz.prog.veiledRec ·))=true:=by kernel_rfl
def aqr:(Rows.nodePlaysRow.veiledFits Tryz.prog Tryz.f7.params.toList (Tryz.f7.params.toList++Rows.nodePlaysSpec.plain.varTypes Tryz.prog++Tryz.f7.resultTypes.toList))=true:=by kernel_rfl
set_option maxRecDepth 100000 in
def ap1:joinedFacts Tryz.prog 7 Tryz.f7 Rows.nodePlaysSpec Rows.nodePlaysRow=true:=by
  unfold joinedFacts
  exact (jF (jF (jF (jF (jF (jF (jF (jF (jF (jF (jF (jF (jF (jF (jF (jF (jF (jF (jF (jF (jF (jF (jF (jF (jF (jF (jF (jF (jF (jF (jF ap4 ap5) aqe) aqp) aqs) aqt) aqu) aqv) aqw) aqx) ap6) ap7) ap8) ap9) ap_) ap') aqa) aqb) aqc) aqd) aqf) aqg) aqh) aqi) aqj) aqk) aql) aqm) aqn) aqo) aqq) aqr)
def ap3:Rows.NodePlaysSaid :=
  OpenClaim.holds_of_wide 7 Tryz.f7 rfl rfl rfl rfl rfl rfl rfl ⟨rfl,rfl,rfl,rfl,rfl⟩ rfl rfl rfl rfl rfl Xu Tryz.func7 ap1
    (dp aN) (by unfold Func.isWrapper;first|(rw [ee (by decide +kernel)];kernel_rfl)|(rw [be (by decide +kernel)];exact ⟨rfl,rfl⟩))
    (fun os Gq a cB _=>aqy os Gq a cB)
theorem nodePlays_card:Rows.NodePlaysCardSaid :=
  Claim7.holds_tied_plain_at .later [] [.data, .widerDeep] true (true, "1d7782d94166bd24611b28d86d543569072fb17d21890aae93bda4ab5a4ab09a") false
    ap3 (fun _ c=>by cases c) aN (fun _ c=>by cases c) nodePlays_row_tie rfl ⟨rfl,rfl⟩ aqA rfl
    (fun z fn bc ve=>by
      obtain rfl:z=7:=p8 (Xu.symm.trans bc) |>.symm
      obtain rfl:fn=Tryz.f7:=(p8 (Tryz.func7.symm.trans ve)).symm
      exact ⟨aqz,fun k u bA=>by
        rw [Tryz.params7] at bA
        have bh:u∈[25,3,26]:=by simpa using QX bA
        have fw:([25,3,26].all fun aG=>!Tryz.prog.wantsStandIn aG)=true:=by kernel_rfl
        exact (show Tryz.prog.wantsStandIn u=false by simpa using rj.1 fw u bh)⟩)
    ap2
end Go.Proofs.YtohjlkjhpibkmaaGreatDoor
