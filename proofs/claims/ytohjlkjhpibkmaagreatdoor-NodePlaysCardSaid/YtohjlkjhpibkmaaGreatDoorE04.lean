/-
  Rules and plain laws that the walks use.
-/
import Derived.Test.YtohjlkjhpibkmaaGreatDoorE03
import Derived.OrdersIn
import Derived.Test.YtohjlkjhpibkmaaGreatDoorE01
import Derived.Test.YtohjlkjhpibkmaaGreatDoorE02
set_option linter.all false
namespace Go.LK
open Go Go.RowKit
section
variable {bi:Type} {z:bi→Value} {t:List (Int×bi)} {i:cM} {D:bW} {C:List aB} {aX Y d r:TypeId} {e F aI:Operand} {p:Nat}
def A'{o:Program}{j:World}{cV:Array MapEntry}{di:Nat}{jo:Obj}(c:j.heap[p]?=some (.map cV di)):(setObj p jo).run o j=.ok () { j with heap:=j.heap.setIfInBounds p jo }:=by simp [setObj,Sem.run,c]
def yb(j:World)(p:Nat)(v:Obj):Frame j [p] { j with heap:=j.heap.setIfInBounds p v }:=⟨rfl,rfl,rfl,by simp,fun k _ ag=>by
  have:p≠k:=fun r=>ag (by simp [r])
  simp [Dx this]⟩
def yp{j:World}{p:Nat}{v jo:Obj}(c:j.heap[p]?=some jo):({ j with heap:=j.heap.setIfInBounds p v }:World).heap[p]?=some v:=by
  have av:p < j.heap.size:=(qE.1 c).1
  simp [av]
def aup{o:Program}{j:World}{key:Int}{aG:bi}(cF:o.underlying Y=some (.map d r))(R:o.underlying d=some (.int .i64))(bh:(cw p z t).holds j) :
    ∃ bQ,(Instr.mapUpdate Y (.map (some p)) (.b key) (z aG)).run o j=.ok () bQ∧Frame j [p] bQ∧(cw p z (e' t key aG)).holds bQ:=by
  obtain ⟨cV,di,G,hl⟩:=bh
  have bc:=hl.find R j key
  have bq:(getObj p).run o j=.ok (.map cV di) j:=by simp [getObj,Sem.run,G]
  have aS:∀ em,(Instr.checkKey em 10000 d (.b key)).run o j=.ok () j:=fun em=>(tD.int R).e7 j em [key] rfl
  have ad:=hl.put key aG
  cases ft:lM t key 0 with
  | none =>
    rw [ft] at ad
    refine ⟨_,?_,yb j p (.map (cV.push { key:=.b key,val:=z aG,born:=di }) (di+1)),⟨_,_,yp G,ad⟩⟩
    simp only [Instr.mapUpdate,nn,jf cF,k7,bq,aS,bc,ft,QJ,A' G]
  | some n =>
    obtain ⟨k,m⟩:=n
    rw [ft] at ad
    obtain ⟨vh,IS,ad⟩:=ad
    have ci:(Instr.keyThatStays (((cV[k]?).map (·.key)).getD (.b key)) (.b key)).run o j=.ok (.b key) j:=by
      rw [IS]
      simp [Instr.keyThatStays,Instr.sameBits]
    refine ⟨_,?_,yb j p (.map (cV.modify k fun r=>{ r with key:=.b key,val:=z aG }) di),⟨_,_,yp G,ad⟩⟩
    simp only [Instr.mapUpdate,nn,jf cF,k7,bq,aS,bc,ft,Bx,ci,A' G]
def aq.q'{key:Int}{aG:bi}(b:Nat)(cF:i.o.underlying Y=some (.map d r))(R:i.o.underlying d=some (.int .i64))(Q:aT D e=some (.map (some p)))(az:aT D F=some (.b key))(ce:aT D aI=some (z aG))(ac:C[b]?=some (cw p z t)) :
    aq i D C (.mapUpdate Y e F aI) aX fun _ B=>B=C.set b (cw p z (e' t key aG)):=fun _ l j V ci y pos cT L bN cz dj=>by
  obtain ⟨bQ,G,J,aA⟩:=aup (key:=key) (aG:=aG) cF R (ci.cC _ (eF ac))
  exact KH (bQ:=bQ) (by simp [execOp,V.aT Q,V.aT az,V.aT ce,G]) (dj _ _ _ rfl (ci.set ac (by simpa [cw] using J) aA (by simp [cw])))
def aq.yJ{key:Int}{eW:Array TypeId}(b:Nat)(bB:eW[0]?=some Y)(cF:i.o.underlying Y=some (.map d r))(R:i.o.underlying d=some (.int .i64))(Q:aT D e=some (.map (some p)))(az:aT D F=some (.b key))(ac:C[b]?=some (cw p z t)) :
    aq i D C (.call { callee:=.builtin .delete,args:=#[e,F],argTypes:=eW }) aX fun _ B=>B=C.set b (cw p z (e3 t key)):=fun _ l j V ci y pos cT L bN cz dj=>by
  obtain ⟨cV,di,G,hl⟩:=ci.cC _ (eF ac)
  have bc:=hl.find R j key
  have bq:(getObj p).run i.o j=.ok (.map cV di) j:=by simp [getObj,Sem.run,G]
  have aS:∀ em,(Instr.checkKey em 10000 d (.b key)).run i.o j=.ok () j:=fun em=>(tD.int R).e7 j em [key] rfl
  have ad:=hl.M5 key
  have key:∃ HX,(Builtin.delete_ eW aX #[.map (some p),key]).run i.o j=.ok (.tuple #[]) { j with heap:=j.heap.setIfInBounds p (.map HX di) }∧kT z (e3 t key) HX di:=by
    cases ft:lM t key 0 with
    | none =>
      rw [ft] at ad
      refine ⟨cV,?_,ad⟩
      exact ach
    | some n =>
      obtain ⟨k,m⟩:=n
      rw [ft] at ad
      refine ⟨cV.eraseIdxIfInBounds k,?_,ad⟩
      exact ach
  obtain ⟨HX,J,aA⟩:=key
  exact lJ (m:=.tuple #[]) (by simp [execOp,resolve,invoke,V.aT Q,V.aT az,builtin,J]) (dj _ _ _ rfl (ci.set ac (yb j p _) ⟨HX,di,yp G,aA⟩ (by simp [cw])))
def aq.FN{eW:Array TypeId}(b:Nat)(bB:eW[0]?=some Y)(cF:i.o.underlying Y=some (.map d r))(Q:aT D e=some (.map (some p)))(ac:C[b]?=some (cw p z t)) :
    aq i D C (.call { callee:=.builtin .clear,args:=#[e],argTypes:=eW }) aX fun _ B=>B=C.set b (cw p z []):=fun _ l j V ci y pos cT L bN cz dj=>by
  obtain ⟨cV,di,G,hl⟩:=ci.cC _ (eF ac)
  have bq:(getObj p).run i.o j=.ok (.map cV di) j:=by simp [getObj,Sem.run,G]
  have J:(Builtin.clear_ eW aX #[.map (some p)]).run i.o j=.ok (.tuple #[]) { j with heap:=j.heap.setIfInBounds p (.map #[] di) }:=by
    simp [Builtin.clear_,bB,jf cF,Result.andThen,bq,A' G]
  exact lJ (m:=.tuple #[]) (by simp [execOp,resolve,invoke,V.aT Q,builtin,J]) (dj _ _ _ rfl (ci.set ac (yb j p _) ⟨#[],di,yp G,kT.nil⟩ (by simp [cw])))
def aq.aty{cV:Array MapEntry}{di:Nat}(b:Nat)(cF:i.o.underlying Y=some (.map d r))(Q:aT D e=some (.map (some p)))(ac:i.dO[b]?=some (cE p (.map cV di))) :
    aq i D C (.range Y e) aX fun m B=>∃ L,m=.n L∧B=cE L (.mapIter (some p) di #[] di) :: C:=fun ok l j V W y pos cT L bN cz dj=>by
  have av:j.heap[p]?=some (.map cV di):=i.b0 ok W ac
  have bq:(getObj p).run i.o j=.ok (.map cV di) j:=by simp [getObj,Sem.run,av]
  exact lJ (m:=.n j.heap.size) (bQ:=j.alloc (.mapIter (some p) di #[] di)) (by simp [execOp,V.aT Q,Instr.range,jf cF,Result.andThen,bq,newObj,Sem.run])
    (dj _ _ _ ⟨_,rfl,rfl⟩ (W.alloc _))
def aq.atz(cF:i.o.underlying Y=some (.map d r))(Q:aT D e=some (.map none)) :
    aq i D C (.range Y e) aX fun m B=>∃ L,m=.n L∧B=cE L (.mapIter none 0 #[] 0) :: C:=fun ok l j V W y pos cT L bN cz dj =>
  lJ (m:=.n j.heap.size) (bQ:=j.alloc (.mapIter none 0 #[] 0)) (by simp [execOp,V.aT Q,Instr.range,jf cF,Result.andThen,newObj,Sem.run])
    (dj _ _ _ ⟨_,rfl,rfl⟩ (W.alloc _))
def aq.apT{L:Nat}(b:Nat)(Q:aT D e=some (.n L))(ac:C[b]?=some (cE L (.mapIter none 0 #[] 0))) :
    aq i D C (.next e false) aX fun m B=>m=.tuple #[.bool false]∧B=C:=fun _ l j V ci y pos cT rJ bN cz dj=>by
  have d_:j.heap[L]?=some (.mapIter none 0 #[] 0):=ci.cC _ (eF ac)
  exact lJ (m:=.tuple #[.bool false]) (bQ:=j) (by simp [execOp,V.aT Q,Instr.next,getObj,Sem.run,d_,Result.andThen]) (dj _ _ _ ⟨rfl,rfl⟩ ci)
def aq.apS{L:Nat}{cV:Array MapEntry}{di:Nat}{c6:Array Nat}(b k:Nat)(Q:aT D e=some (.n L))(ac:C[b]?=some (cE L (.mapIter (some p) di c6 di)))(ag:i.dO[k]?=some (cE p (.map cV di)))(alK:∀ e∈cV.toList,e.born < di) :
    aq i D C (.next e false) aX fun m B=>((leftOf cV c6).size=0∧m=.tuple #[.bool false]∧B=C)∨∃ aM∈(leftOf cV c6).toList,m=.tuple #[.bool true,aM.key,aM.val]∧B=C.set b (cE L (.mapIter (some p) di (c6.push aM.born) di)):=fun ok l j V ci y pos cT rJ bN cz dj=>by
  have cs:j.heap[L]?=some (.mapIter (some p) di c6 di):=ci.cC _ (eF ac)
  have av:j.heap[p]?=some (.map cV di):=i.b0 ok ci ag
  rcases run_next_at (P:=i.o) j aX L p di di c6 cV di cs av alK (oQ _) with ⟨bB,G⟩|⟨aM,wR,ih,gk,G⟩
  · exact lJ (m:=.tuple #[.bool false]) (bQ:=j) (by simp [execOp,V.aT Q,G]) (dj _ _ _ (.inl ⟨bB,rfl,rfl⟩) ci)
  · have wV:cl i.an i.bL C ih:=by
      rcases gk with rfl|rfl
      · exact ci
      · exact ci.drew _
    have Fx:ih.heap[L]?=some (.mapIter (some p) di c6 di):=wV.cC _ (eF ac)
    exact lJ (m:=.tuple #[.bool true,aM.key,aM.val]) (by simp [execOp,V.aT Q,G,ChangeMaps.setBlock]) (dj _ _ _ (.inr ⟨aM,wR,rfl,rfl⟩) (wV.set ac (yb ih L _) (yp Fx) (by simp [cE])))
def aV.aiL{L:Nat}{cV:Array MapEntry}{di:Nat}{c6:Array Nat}{aM:MapEntry}(b k:Nat)(Q:aT D e=some (.n L))(ac:C[b]?=some (cE L (.mapIter (some p) di (c6.push aM.born) di)))(ag:i.dO[k]?=some (cE p (.map cV di)))
    (wR:aM∈cV.toList) (aw:(cV.toList.map (·.born)).Nodup):aV i D C (.entry e) aX (.tuple #[aM.key,aM.val]):=fun ok l j V ci _ _ _ _=>by
  have cs:j.heap[L]?=some (.mapIter (some p) di (c6.push aM.born) di):=ci.cC _ (eF ac)
  have av:j.heap[p]?=some (.map cV di):=i.b0 ok ci ag
  have:=run_entry_at (P:=i.o) j L p di c6 cV di aM cs av wR aw
  simp [execOp,V.aT Q,this]
end
end Go.LK
namespace Go.LK
open Go Go.RowKit
def sl(o:Program)(f':Nat)(nj:Array Value)(dO:List aB)(s2:List (List Value)→List Value→Prop)(pM:List (List Value)→Prop):Prop :=
  ∀ (f t:Nat) (bo N:Type) (dH:List (List Value)→bo→Prop) (cJ:bo→List aB) (hR:N→Prop) (hk:N→List aB) (aF:List aB) (aJ:World) (ii:bo),
    (∀ ar∈dO++aF,ar.holds aJ∧∀ d∈ar.dT,d∉ei (cJ ii)) →
    (∀ ae F e eS,dH ae F→s2 ae e→(∀ ar∈dO++aF,ar.holds eS∧∀ d∈ar.dT,d∉ei (cJ F))→cl eS (ei (cJ F)) (cJ F) eS →
      YieldAt (kg none) (t-1) o f e.toArray eS fun r dY=>(r=.returned (.bool true)∧∃ hj,dH (ae++[e]) hj∧cl eS (ei (cJ F)) (cJ hj) dY)∨(r=.returned (.bool false)∧∃ aI,hR aI∧cl eS (ei (cJ F)) (hk aI) dY)) →
    dH [] ii→cl aJ (ei (cJ ii)) (cJ ii) aJ →
    CallsIn (kg none) t o f' (#[.func (.yield f) #[] #[]]++nj) aJ fun r dY=>(∃ m,r=.returned m)∧((∃ ae F,pM ae∧dH ae F∧cl aJ (ei (cJ ii)) (cJ F) dY)∨∃ aI,hR aI∧cl aJ (ei (cJ ii)) (hk aI) dY)
def cM.Dj{i:cM}(ok:i.bC){C:List aB}{j:World}(W:cl i.an i.bL C j):∀ ar∈i.dO,ar.holds j∧∀ d∈ar.dT,d∉ei C:=fun ar bI=>by
  obtain ⟨b,ac⟩:=kw.1 bI
  refine ⟨i.b0 ok W ac,fun d R hB=>?_⟩
  obtain ⟨G,J⟩:=ok ar bI
  rcases W.mu d hB with aA|aA
  · have:=ar.lt _ G d R;omega
  · exact J d R aA
def cl.fy{an j:World}{bL:List Nat}{C ah:List aB}(c:cl an bL (C++ah) j):cl j (ei C) C j:=by
  have Fu:=p7.1 c.gX
  exact ⟨Frame.refl j _,fun ar bI=>c.cC ar xC,Fu.1,fun d R=>.inr R⟩
def cl.o3{an j bQ:World}{bL:List Nat}{C B ah:List aB}(c:cl an bL (C++ah) j)(gH:cl j (ei C) B bQ):cl an bL (B++ah) bQ :=
  c.step gH.aE gH.cC gH.gX (fun d R=>(gH.mu d R).symm)
section
variable {i:cM} {b:mz} {d:List eH} {D:bW} {C:List aB} {ak:Array Oper} {bv:List Oper} {aX:TypeId} {y:Nat} {pos:String} {cT:Array Edge}
def bX.aal{f t:Nat}{e:Operand}{dq:List Operand}{eW:Array TypeId}{ae:List Value}(ah dW:List aB){bN:Bool→List aB→Prop}(N_:b.lO=t)(fM:b.b0=none)(Q:aT D e=some (.func (.yield f) #[] #[]))(ly:dq.map (aT D)=ae.map some)(dv:C=ah++dW)
    (az:i.bC→∀ eS,cl i.an i.bL C eS→cl eS (ei dW) dW eS→YieldAt (kg none) (t-1) i.o f ae.toArray eS fun r dY=>∃ p B,r=.returned (.bool p)∧bN p B∧cl eS (ei dW) B dY) (ao:Nat.blt y i.s=true)
    (c:∀ p B,bN p B→bX i b ak bv d ((y,.bool p) :: D) (ah++B)):bX i b ak (⟨some y,.call { callee:=.value e,args:=dq.toArray,argTypes:=eW },aX,pos,cT,none⟩ :: bv) d D C:=fun ok l j V W =>
  wpListIn_plain rfl fun hs dj=>by
    subst N_ dv
    have jw:cl i.an i.bL (dW++ah) j:=W.pk Dv
    obtain ⟨fn,tmps,assign,body,oH,Wm⟩:=az ok j W jw.fy
    have Wu:dq.map l.eval=ae:=by
      rw [←H2];exact V.iT.dn ly
    have Aq:(execOp l.eval ⟨some y,.call { callee:=.value e,args:=dq.toArray,argTypes:=eW },aX,pos,cT,none⟩).run i.o j=.ok (.round f fn tmps assign body) j:=by
      exact acv
    exact ado
def sl.enter{o:Program}{f':Nat}{fn:Func}{body:Code}{nj:List Value}{dO:List aB}{s2:List (List Value)→List Value→Prop}{pM:List (List Value)→Prop}(s:Nat)(bc:o.funcs[f']?=some fn)(av:fn.body=some body)(aw:fn.ntmps=s)(h9:Nat.ble (nj.length+1) s=true)(alY:fn.results=#[])
    (c:∀ (f t:Nat) (bo N:Type) (dH:List (List Value)→bo→Prop) (cJ:bo→List aB) (hR:N→Prop) (hk:N→List aB) (aF:List aB) (aJ:World) (ii:bo),
      (∀ ar∈dO++aF,ar.holds aJ∧∀ d∈ar.dT,d∉ei (cJ ii)) →
      (∀ ae F e eS,dH ae F→s2 ae e→(∀ ar∈dO++aF,ar.holds eS∧∀ d∈ar.dT,d∉ei (cJ F))→cl eS (ei (cJ F)) (cJ F) eS →
        YieldAt (kg none) (t-1) o f e.toArray eS fun r dY=>(r=.returned (.bool true)∧∃ hj,dH (ae++[e]) hj∧cl eS (ei (cJ F)) (cJ hj) dY)∨(r=.returned (.bool false)∧∃ aI,hR aI∧cl eS (ei (cJ F)) (hk aI) dY)) →
      dH [] ii→∀ fS:Exit→Act→World→Prop,(∀ r l j,r=.normal∨r=.ret→l.defers=[]→((∃ ae F,pM ae∧dH ae F∧cl aJ (ei (cJ ii)) (cJ F) j)∨∃ aI,hR aI∧cl aJ (ei (cJ ii)) (hk aI) j)→fS r l j) →
      ∃ Mo:List aB,(∀ ar∈Mo,ar.holds aJ∧∀ d∈ar.dT,d∉ei (cJ ii)) ∧
        bl { o:=o,fn:=fn,s:=s,an:=aJ,bL:=ei (cJ ii),dO:=Mo,ah:=fun _ _=>True } ⟨none,t,[],fS⟩ [.code body] (wG 0 (.func (.yield f) #[] #[] :: nj)) (cJ ii)):sl o f' nj.toArray dO s2 pM:=by
  intro f t bo N dH cJ hR hk aF aJ ii fM az bB ci
  have ie:(#[.func (.yield f) #[] #[]]++nj.toArray:Array Value)=(.func (.yield f) #[] #[] :: nj:List Value).toArray:=by simp
  rw [ie]
  refine callsIn_of_wp bc av trivial ?_
  obtain ⟨Mo,j8,ag⟩:=c f t bo N dH cJ hR hk aF aJ ii fM az bB (bodyPost o fn fun r dY=>(∃ m,r=.returned m)∧((∃ ae F,pM ae∧dH ae F∧cl aJ (ei (cJ ii)) (cJ F) dY)∨∃ aI,hR aI∧cl aJ (ei (cJ ii)) (hk aI) dY)) (fun r l j aC ao EW=>by
    have cs:(results fn l.tmps).run o j=.ok (.tuple #[]) j:=by
      simp [results,alY]
    rcases aC with rfl|rfl<;>exact ⟨ao,_,cs,⟨_,rfl⟩,EW⟩)
  rw [aw]
  exact ag j8 _ aJ (Tu (by simpa using h9)) ci
def bl.PT{L:Operand}{af:List Tmp}{assign body:Code}{f':Nat}{nj:Array Value}{Eo:List aB}{s2:List (List Value)→List Value→Prop}{pM:List (List Value)→Prop}{bo N:Type}(dH:List (List Value)→bo→Prop)(cJ:bo→List aB)(hR:Code→N→Prop)(hk:N→List aB)
    (fM:b.b0=none) (bq:aT D L=some (.func (.func f') #[] nj)) (Nc:∀ args j,(callFunc f' args).run i.o j=.ok (.enter f' args) j) (vf:sl i.o f' nj Eo s2 pM) (yw:∀ ae e,s2 ae e→e.length=af.length) (OC:af.all (fun n=>Nat.blt n i.s)=true)
    (bK:bo) (bB:dH [] bK) (bt:List Nat) (aw:bt.Nodup) (dv:LK.dB C bt=cJ bK) (yA:∀ ar∈Eo,ar∈i.dO)
    (round:∀ (eS:World) (tF:List Nat) (f b5:Nat) (rec:LoopState→Option Code→Loop) ae F e,(∀ H n,(rec H n).state=H)→(∀ H n gC ks,{ rec H n with state:=gC,pending:=ks }=rec gC ks)→dH ae F→s2 ae e →
      bl { i with an:=eS,bL:=tF } ⟨some f,b.lO-1-1,[],fun _ _ _=>False⟩ [.code assign,.gW (L3 { i with an:=eS,bL:=tF } ⟨some f,b.lO-1-1,[],mB { i with an:=eS,bL:=tF } rec f b5 (fun _ F=>dH (ae++[e]) F) cJ hR hk 0⟩ f body)] (Ie af e D) (LK.cE f (.loop (rec .ready none)) :: LK.cE b5 (.deferred (some [])) :: cJ F))
    (done:∀ f b5 Z ae F,pM ae→dH ae F→bl i { b with fQ:={ target:=.collected b5,args:=#[] } :: b.fQ } d D (LK.cE f (.loop Z) :: LK.cE b5 (.deferred (some [])) :: cJ F))
    (Qm:∀ f b5 Z e aI,hR e aI→bl i { b with fQ:={ target:=.collected b5,args:=#[] } :: b.fQ } (.code e :: d) D (LK.cE f (.loop Z) :: LK.cE b5 (.deferred (some [])) :: hk aI)) :
    bl i b (.code (.rangeFunc L af.toArray assign body) :: d) D C:=fun ok l j V W=>by
  have ci:cl i.an i.bL (cJ bK) j:=dv ▸ W.dB aw
  show (Code.rangeFunc L af.toArray assign body).wpIn (kg b.b0) b.lO i.o (j0 i.o b d) l j
  refine wpIn_rangeFunc ?_
  intro fn _
  obtain ⟨rec,jk⟩:∃ rec:LoopState→Option Code→Loop,rec=fun dC FZ=>O9 fn l.tmps af.toArray assign body j.heap.size dC FZ:=⟨_,rfl⟩
  have Iz:∀ H n,(rec H n).state=H:=fun H n=>by rw [jk];rfl
  have EX:∀ H n gC ks,{ rec H n with state:=gC,pending:=ks }=rec gC ks:=fun H n gC ks=>by rw [jk];rfl
  have wV:=(ci.alloc (.deferred (some []))).alloc (.loop (rec .ready none))
  rw [World.size_alloc] at wV
  have Og:=run_enterLoop_outer (P:=i.o) (w:=j) fn l.tmps af.toArray assign body
  have E4:∀ b5,l9 i.s ({ target:=.collected b5,args:=#[] } :: b.fQ) { l with defers:=[{ target:=.collected b5,args:=#[] }]++l.defers } D:=fun b5=>⟨V.size,by rw [V.defers];rfl,V.cC⟩
  refine ⟨j.heap.size+1,[{ target:=.collected j.heap.size,args:=#[] }],(j.alloc (.deferred (some []))).alloc (.loop (rec .ready none)),{ target:=.fn (.func f') nj,args:=#[.func (.yield (j.heap.size+1)) #[] #[]] },(j.alloc (.deferred (some []))).alloc (.loop (rec .ready none)),f',
    #[.func (.yield (j.heap.size+1)) #[] #[]]++nj,(j.alloc (.deferred (some []))).alloc (.loop (rec .ready none)),?_,?_,fun _ _=>trivial,?_,fun c=>(by cases c),?_⟩
  · rw [jk]
    show (Instr.enterLoop fn l.tmps af.toArray assign body b.b0).run i.o j=_
    rw [fM]
    exact Og
  · have aC:l.eval (.const (.func (.yield (j.heap.size+1)) #[] #[]))=.func (.yield (j.heap.size+1)) #[] #[]:=rfl
    simp [resolve,Deferred.ofValue,V.aT bq,aC]
  · simp [invoke,Nc]
  · have Fy:kg b.b0=kg none:=by rw [fM]
    have rY:cl i.an i.bL ((LK.cE (j.heap.size+1) (.loop (rec .ready none)) :: LK.cE j.heap.size (.deferred (some [])) :: cJ bK)++[]) ((j.alloc (.deferred (some []))).alloc (.loop (rec .ready none))):=by rw [xA];exact wV
    have aS:=vf (j.heap.size+1) (b.lO-1) bo (Code×N) dH (fun F=>LK.cE (j.heap.size+1) (.loop (rec .ready none)) :: LK.cE j.heap.size (.deferred (some [])) :: cJ F) (fun aI=>hR aI.1 aI.2) (fun aI=>LK.cE (j.heap.size+1) (.loop (rec .done (some aI.1))) :: LK.cE j.heap.size (.deferred (some [])) :: hk aI.2) i.dO ((j.alloc (.deferred (some []))).alloc (.loop (rec .ready none))) bK
      (fun ar bI=>by
        have yi:ar∈i.dO:=by
          rcases iE.1 bI with c|c
          · exact yA ar c
          · exact c
        exact cM.Dj ok wV ar yi)
      (fun ae F e eS az Q dI ix=>by
        have S:eS.heap[j.heap.size+1]?=some (.loop (rec .ready none)):=ix.cC (LK.cE (j.heap.size+1) (.loop (rec .ready none))) oU
        have um:=run_yield (P:=i.o) (args:=e.toArray) S Rv
        have rY:=round eS (ei (LK.cE (j.heap.size+1) (.loop (rec .ready none)) :: LK.cE j.heap.size (.deferred (some [])) :: cJ F)) (j.heap.size+1) j.heap.size rec ae F e Iz EX az Q (fun ar bI=>dI ar (iE.2 (.inr bI))) { tmps:=(af.zip e).foldl (fun u (n,m)=>u.setIfInBounds n m) l.tmps,defers:=[] } eS (N1 (rj.1 OC) ⟨V.size,rfl,V.cC⟩ (yw ae e Q)) ix
        have dQ:(rec .ready none).fn=fn:=by rw [jk];rfl
        have bP:(rec .ready none).params=af.toArray:=by rw [jk];rfl
        have cP:(rec .ready none).assign=assign:=by rw [jk];rfl
        have cQ:(rec .ready none).body=body:=by rw [jk];rfl
        have dZ:(rec .ready none).tmps=l.tmps:=by rw [jk];rfl
        rw [dQ,bP,cP,cQ,dZ] at um
        have eE:(af.toArray.zip e.toArray).foldl (fun u (n,m)=>u.setIfInBounds n m) l.tmps=(af.zip e).foldl (fun u (n,m)=>u.setIfInBounds n m) l.tmps:=by simp
        rw [eE] at um
        have OH:RoundIn (kg none) (b.lO-1-1) i.o (j.heap.size+1) fn ((af.zip e).foldl (fun u (n,m)=>u.setIfInBounds n m) l.tmps) assign body eS (fun r dY=>(r=.returned (.bool true)∧Mi { i with an:=eS,bL:=ei (LK.cE (j.heap.size+1) (.loop (rec .ready none)) :: LK.cE j.heap.size (.deferred (some [])) :: cJ F) } rec (j.heap.size+1) j.heap.size (fun _ F=>dH (ae++[e]) F) cJ (0+1) dY)∨(r=.returned (.bool false)∧Mj { i with an:=eS,bL:=ei (LK.cE (j.heap.size+1) (.loop (rec .ready none)) :: LK.cE j.heap.size (.deferred (some [])) :: cJ F) } rec (j.heap.size+1) j.heap.size hR hk dY)):=roundIn_of_wpIn trivial rY
        refine ⟨fn,_,assign,body,um,aan OH ?_⟩
        rintro r dY (⟨rfl,hj,jM,eY⟩|⟨rfl,Bo,aI,ce,eY⟩)
        · exact .inl ⟨rfl,hj,jM,eY⟩
        · exact .inr ⟨rfl,(Bo,aI),ce,eY⟩)
      bB rY.fy
    rw [Fy]
    refine aS.mono ?_
    rintro r dY ⟨⟨m,rfl⟩,EW⟩
    rcases EW with ⟨ae,F,Oh,az,Cz⟩|⟨⟨e,aI⟩,ce,Cz⟩
    · have ix:cl i.an i.bL (LK.cE (j.heap.size+1) (.loop (rec .ready none)) :: LK.cE j.heap.size (.deferred (some [])) :: cJ F) dY:=by
        exact acP
      have S:dY.heap[j.heap.size+1]?=some (.loop (rec .ready none)):=ix.cC (LK.cE (j.heap.size+1) (.loop (rec .ready none))) oU
      have aC:=run_endLoop (P:=i.o) S abc
      have dQ:(rec .ready none).pending=none:=by rw [jk];rfl
      rw [dQ] at aC
      refine ⟨none,_,aC,?_⟩
      have:=done (j.heap.size+1) j.heap.size { rec .ready none with state:=.exhausted,pending:=none } ae F Oh az ok _ _ (E4 j.heap.size) (ix.putObj (b:=0) (jo:=.loop { rec .ready none with state:=.exhausted,pending:=none }) rfl)
      rw [xO] at this
      exact this
    · have ix:cl i.an i.bL (LK.cE (j.heap.size+1) (.loop (rec .done (some e))) :: LK.cE j.heap.size (.deferred (some [])) :: hk aI) dY:=by
        exact acP
      have S:dY.heap[j.heap.size+1]?=some (.loop (rec .done (some e))):=ix.cC (LK.cE (j.heap.size+1) (.loop (rec .done (some e)))) oU
      have aC:=run_endLoop (P:=i.o) S abc
      have dQ:(rec .done (some e)).pending=some e:=by rw [jk];rfl
      rw [dQ] at aC
      refine ⟨some e,_,aC,?_⟩
      have:=Qm (j.heap.size+1) j.heap.size { rec .done (some e) with state:=.exhausted,pending:=some e } e aI ce ok _ _ (E4 j.heap.size) (ix.putObj (b:=0) (jo:=.loop { rec .done (some e) with state:=.exhausted,pending:=some e }) rfl)
      show e.wpIn (kg none) b.lO i.o (j0 i.o b d) _ _
      have J:e.wpIn (kg b.b0) b.lO i.o (j0 i.o { b with fQ:={ target:=.collected j.heap.size,args:=#[] } :: b.fQ } d) { l with defers:=[{ target:=.collected j.heap.size,args:=#[] }]++l.defers } _:=this
      rw [xO,Fy] at J
      exact J
end
end Go.LK
namespace Go.LK
open Go Go.RowKit
def YieldAt.xm{qa:Fence}{t:Nat}{o:Program}{f:Nat}{args:Array Value}{aJ:World}{ah l_:Ending→World→Prop}(c:YieldAt qa t o f args aJ ah)(dI:∀ r j,ah r j→l_ r j):YieldAt qa t o f args aJ l_:=by
  obtain ⟨fn,tmps,assign,body,G,J⟩:=c
  exact ⟨fn,tmps,assign,body,G,aan J dI⟩
section
variable {bi:Type} {z:bi→Value} {t:List (Int×bi)} {cV:Array MapEntry} {di:Nat} {c6:Array Nat} {ey:List Int} {aM:MapEntry}
def kT.key(c:kT z t cV di)(aC:aM∈cV.toList):∃ d m,aM.key=.b d∧aM.val=z m∧(d,m)∈t:=by
  have:(aM.key,aM.val)∈t.map (fun n=>(Value.b n.1,z n.2)):=by rw [←c.eq];exact bx.2 ⟨aM,aC,rfl⟩
  obtain ⟨n,ad,dJ⟩:=bx.1 this
  simp only [tr] at dJ
  exact ⟨n.1,n.2,dJ.1.symm,dJ.2.symm,ad⟩
def Xg{mU axp:Type}{L:mU→axp}:∀ {f:List mU},(f.map L).Nodup→∀ {l p:mU},l∈f→p∈f→L l=L p→l=p
  | e :: f,c,l,p,V,av,r=>by
    have gH:=kP.1 c
    rcases fb.1 V with G|G<;>rcases fb.1 av with J|J
    · rw [G,J]
    · exact absurd (bx.2 ⟨p,J,by rw [←r,G]⟩) gH.1
    · exact absurd (bx.2 ⟨l,G,by rw [r,J]⟩) gH.1
    · exact Xg gH.2 G J r
def kT.one(c:kT z t cV di){l p:MapEntry}(V:l∈cV.toList)(av:p∈cV.toList)(R:l.key=p.key):l=p:=by
  have aw:(cV.toList.map (·.key)).Nodup:=by
    have:cV.toList.map (·.key)=(ex t).map (Value.int .i64):=by
      have:=dz (List.map Prod.fst) c.eq
      simpa [rl,GQ,ex] using this
    rw [this]
    exact List.Pairwise.map _ (fun l p lw r=>lw (by simpa using r)) c.wZ
  exact Xg aw V av R
structure wx (t:List (Int×bi)) (cV:Array MapEntry) (c6:Array Nat) (ey:List Int):Prop where
  gX:ey.Nodup
  OO:∀ aM∈cV.toList,∀ d,aM.key=.b d→(c6.contains aM.born=true↔d∈ey)
  sub:∀ d∈ey,d∈ex t
def wx.nil:wx t cV #[] []:=⟨by simp,fun aM _ d _=>by simp,by simp⟩
def wx.next(hl:kT z t cV di)(c:wx t cV c6 ey)(wR:aM∈(leftOf cV c6).toList):∃ d m,aM.key=.b d∧aM.val=z m∧(d,m)∈t∧d∉ey∧wx t cV (c6.push aM.born) (ey++[d]):=by
  obtain ⟨aC,W⟩:=mem_left wR
  obtain ⟨d,m,R,ba,wU⟩:=hl.key aC
  have uf:d∉ey:=fun cN=>by
    have:=(c.OO aM aC d R).2 cN
    rw [W] at this;cases this
  refine ⟨d,m,R,ba,wU,uf,lm.2 ⟨c.gX,by simp,fun l V p av=>by simp at av;subst av;exact fun r=>uf (r ▸ V)⟩,fun Nf q0 cD hB=>?_,fun cD hB=>?_⟩
  · rw [contains_push,iE,nm,KR,c.OO Nf q0 cD hB,beq_iff_eq]
    constructor
    · rintro (G|G)
      · exact .inl G
      · have:Nf=aM:=born_inj hl.born q0 aC G
        subst this
        rw [R] at hB;cases hB
        exact .inr rfl
    · rintro (G|G)
      · exact .inl G
      · subst G
        have:Nf=aM:=hl.one q0 aC (by rw [hB,R])
        subst this
        exact .inr rfl
  · rcases iE.1 hB with G|G
    · exact c.sub cD G
    · simp at G;subst G
      exact bx.2 ⟨_,wU,rfl⟩
def wx.pM(hl:kT z t cV di)(c:wx t cV c6 ey)(bB:(leftOf cV c6).size=0):ey.Perm (ex t):=by
  refine (List.perm_ext_iff_of_nodup c.gX hl.wZ).2 fun d=>⟨c.sub d,fun R=>?_⟩
  obtain ⟨n,ad,rfl⟩:=bx.1 R
  have:(Value.b n.1,z n.2)∈cV.toList.map (fun r=>(r.key,r.val)):=by rw [hl.eq];exact bx.2 ⟨n,ad,rfl⟩
  obtain ⟨aM,aC,Ao⟩:=bx.1 this
  simp only [tr] at Ao
  exact (c.OO aM aC n.1 Ao.1).1 (all_seen cV c6 bB aM aC)
def aoR(t:List (Int×bi))(ae:List (List Value))(e:List Value):Prop:=∃ d,d∈ex t∧e=[.b d]∧e∉ae
def W4(t:List (Int×bi))(ae:List (List Value)):Prop:=∃ ey:List Int,ae=ey.map (fun d=>[Value.b d])∧ey.Perm (ex t)
def aoT{ey:List Int}{d:Int}(c:d∉ey):[Value.b d]∉ey.map (fun d=>[Value.b d]):=fun bh=>by
  obtain ⟨k,ag,aC⟩:=bx.1 bh
  simp at aC;subst aC;exact c ag
def W5{ey:List Int}{d:Int}:(ey++[d]).map (fun d=>[Value.b d])=ey.map (fun d=>[Value.b d])++[[Value.b d]]:=by simp
end
def xe:∀ (C:List aB),LK.dB C (List.range C.length)=C
  | []=>rfl
  | ar :: C=>by
    have b6:=xe C
    unfold LK.dB at b6 ⊢
    rw [e6,GO,uL,Q4]
    simp only [DE,GQ,Dy]
    rw [b6]
def Qa{ar:aB}(C:List aB):LK.dB (ar :: C) (List.range C.length.succ)=ar :: C:=xe (ar :: C)
end Go.LK
namespace Go.LK
open Go Go.RowKit
section
variable {i:cM} {D:bW} {aX Y:TypeId} {e:Operand}
def U.apt{d r:TypeId}(cF:i.o.underlying Y=some (.map d r))(Q:aT D e=some (.map none)):U i D (.binOp .eql Y e (.const (.map none)) Y) aX (.bool true):=fun l j c _ _ _ _=>by
  have aA:∀ y,(Op.equalIn (y+1) Y (.map none) (.map none)).run i.o j=.ok true j:=fun y=>by simp [Op.equalIn,jf cF]
  have aZ:(binOp .eql Y (.map none) (.map none)).run i.o j=.ok (.bool true) j:=by
    exact DZ
  have bT:eqGuard .eql Y e (.const (.map none)) (.map none) (.map none)=pure ():=by cases e<;>rfl
  exact acc
def U.Jm{d r:TypeId}{p:Nat}(cF:i.o.underlying Y=some (.map d r))(Q:aT D e=some (.map (some p))):U i D (.binOp .eql Y e (.const (.map none)) Y) aX (.bool false):=fun l j c _ _ _ _=>by
  have aA:∀ y,(Op.equalIn (y+1) Y (.map (some p)) (.map none)).run i.o j=.ok false j:=fun y=>by simp [Op.equalIn,jf cF]
  have aZ:(binOp .eql Y (.map (some p)) (.map none)).run i.o j=.ok (.bool false) j:=by
    exact DZ
  have bT:eqGuard .eql Y e (.const (.map none)) (.map (some p)) (.map none)=pure ():=by cases e<;>rfl
  exact acc
def U.pY{r:TypeId}{mY:Addr}(cF:i.o.underlying Y=some (.pointer r))(Q:aT D e=some (.pointer (some mY))):U i D (.binOp .neq Y e (.const (.pointer none)) Y) aX (.bool true):=fun l j c _ _ _ _=>by
  have aA:∀ y,(Op.equalIn (y+1) Y (.pointer (some mY)) (.pointer none)).run i.o j=.ok false j:=fun y=>by simp [Op.equalIn,jf cF]
  have aZ:(binOp .neq Y (.pointer (some mY)) (.pointer none)).run i.o j=.ok (.bool true) j:=by
    exact DZ
  have bT:eqGuard .neq Y e (.const (.pointer none)) (.pointer (some mY)) (.pointer none)=pure ():=by cases e<;>rfl
  exact LV
def U.asE{r:TypeId}(cF:i.o.underlying Y=some (.pointer r))(Q:aT D e=some (.pointer none)):U i D (.binOp .neq Y e (.const (.pointer none)) Y) aX (.bool false):=fun l j c _ _ _ _=>by
  have aA:∀ y,(Op.equalIn (y+1) Y (.pointer none) (.pointer none)).run i.o j=.ok true j:=fun y=>by simp [Op.equalIn,jf cF]
  have aZ:(binOp .neq Y (.pointer none) (.pointer none)).run i.o j=.ok (.bool false) j:=by
    exact DZ
  have bT:eqGuard .neq Y e (.const (.pointer none)) (.pointer none) (.pointer none)=pure ():=by cases e<;>rfl
  exact LV
end
def bl.lC{i:cM}{b:mz}{d:List eH}{D:bW}{C:List aB}(u:TypeId)(H:Nat)(c:bl i b d D (row (.slice none 0 0) u H [] :: C)):bl i b d D C:=fun ok l j V W =>
  c ok l j V (W.add (Frame.refl j _) ⟨GU j 0 u H,by simp⟩ zm)
def bX.one{i:cM}{b:mz}{d:List eH}{D:bW}{C:List aB}{ak:Array Oper}{bv:List Oper}{X:Value}{l3:Nat}{bZ:List (List Value)}(W:ax i C X l3 bZ)(c:X.oneCell'=true→bX i b ak bv d D C):bX i b ak bv d D C:=fun ok l j V ci =>
  c (zW (W ok j ci)) ok l j V ci
def apD{bi:Type}{p:Nat}{z:bi→Value}{t:List (Int×bi)}:∀ j,(cw p z t).holds j→(r4 (.map (some p)) z t).holds j∧∀ d∈(r4 (.map (some p)) z t).dT,d∈(cw p z t).dT:=fun _ c=>⟨.inr ⟨p,rfl,c⟩,fun _ R=>R⟩
def apB{bi:Type}{z:bi→Value}{j:World}:(r4 (.map none) z []).holds j:=Or.inl ⟨rfl,rfl⟩
def apA{bi:Type}{z:bi→Value}{d:Nat}(c:d∈(r4 (.map none) z []).dT):False:=by
  have J:d∈([]:List Nat):=c
  cases J
def eI.apV{i:cM}{C dW en:List aB}{bi:Type}{z:bi→Value}(c:eI i C dW en):eI i C dW (r4 (.map none) z [] :: en):=fun ok j W ar bI=>by
  rcases fb.1 bI with rfl|bI
  · exact ⟨apB,fun d R=>(apA R).elim⟩
  · exact c ok j W ar bI
def W6:∀ {l p:List Int},l.map (fun d=>[Value.b d])=p.map (fun d=>[Value.b d])→l=p
  | [],[],_=>rfl
  | [],_ :: _,c=>by simp at c
  | _ :: _,[],c=>by simp at c
  | e :: l,F :: p,c=>by
    rw [kO,kO,oR] at c
    obtain ⟨G,J⟩:=c
    have:e=F:=by simpa using G
    rw [this,W6 J]
def aoQ{bi:Type}{t:List (Int×bi)}{ey:List Int}{ae:List (List Value)}(c:W4 t ae)(ba:ae=ey.map fun d=>[Value.b d]):ey.Perm (ex t):=by
  obtain ⟨aAU,G,J⟩:=c
  rw [←W6 (G.symm.trans ba)];exact J
def Jx:∀ {ey f:List Int},ey.Nodup→(∀ d∈ey,d∈f)→ey.length≤f.length
  | [],_,_,_=>by simp
  | d :: ey,f,aw,W=>by
    have mK:=kP.1 aw
    have R:d∈f:=W d oU
    have b6:=Jx (ey:=ey) (f:=f.erase d) mK.2 fun e Q=>(List.mem_erase_of_ne (fun r=>mK.1 (by rw [←r];exact Q))).2 (W e DR)
    rw [aas R] at b6
    have:=Rb R
    simp only [e6];omega
def sm{bi:Type}(t:List (Int×bi))(ae:List (List Value))(ey:List Int):Prop:=ae=ey.map (fun d=>[Value.b d])∧ey.Nodup∧∀ d∈ey,d∈ex t
def sm.nil{bi:Type}{t:List (Int×bi)}:sm t [] []:=⟨rfl,by simp,by simp⟩
def sm.next{bi:Type}{t:List (Int×bi)}{ae:List (List Value)}{ey:List Int}{d:Int}(c:sm t ae ey)(R:d∈ex t)(aw:[Value.b d]∉ae):sm t (ae++[[Value.b d]]) (ey++[d]):=by
  obtain ⟨G,J,aA⟩:=c
  have uf:d∉ey:=fun ac=>aw (by rw [G];exact bx.2 ⟨d,ac,rfl⟩)
  refine ⟨by rw [W5,G],lm.2 ⟨J,by simp,fun l V p av=>by simp at av;subst av;exact fun r=>uf (r ▸ V)⟩,fun e Q=>?_⟩
  rcases iE.1 Q with Q|Q
  · exact aA e Q
  · simp at Q;subst Q;exact R
def sm.len{bi:Type}{t:List (Int×bi)}{ae:List (List Value)}{ey:List Int}(c:sm t ae ey):ey.length≤t.length:=by
  have:=Jx c.2.1 c.2.2
  simpa [ex] using this
def Frame.Pn{j bQ:World}{bL D_:List Nat}(c:Frame j bL bQ)(W:∀ d∈bL,d∈D_):Frame j D_ bQ:=⟨c.os,c.tape,c.output,c.size,fun d R aw=>c.kr d R fun bh=>aw (W d bh)⟩
def a'.ai7{C h8:List aB}(c:a' C h8){j:World}(W:cl j (ei C) C j):∀ d∈LK.ei h8,d∈LK.ei C:=fun d R=>by
  have G:=c j _ j W
  rcases G.mu d R with J|J
  · have:=G.lt d R;omega
  · exact J
def M.conv{o:Program}{z:FuncId}{args:Array Value}{dO C h8:List aB}{A6 post:Value→List aB→Prop}(c:M o z args dO h8 A6)(G:a' C h8)(J:∀ m B,A6 m B→∃ zy,post m zy∧a' B zy):M o z args dO C post:=fun j fM ci=>by
  have jw:=G j _ j ci
  have qr:=G.ai7 ci
  have Fq:cl j (ei h8) h8 j:=⟨Frame.refl j _,jw.cC,jw.gX,fun d R=>.inr R⟩
  refine (c j (fun ar bI=>⟨(fM ar bI).1,fun d R hB=>(fM ar bI).2 d R (qr d hB)⟩) Fq).mono ?_
  rintro r bQ ⟨m,B,rfl,ad,eY⟩
  obtain ⟨zy,oF,cs⟩:=J m B ad
  refine ⟨m,zy,rfl,oF,cs j _ bQ ⟨eY.aE.Pn qr,eY.cC,eY.gX,fun d R=>?_⟩⟩
  rcases eY.mu d R with aA|aA
  · exact .inl aA
  · exact .inr (qr d aA)
def a'.imp{ar b2:aB}{C:List aB}(c:∀ j,ar.holds j→b2.holds j)(bc:b2.dT=ar.dT):a' (ar :: C) (b2 :: C):=fun an bL j W=>by
  have CE:ei (b2 :: C)=ei (ar :: C):=by rw [ya,ya,bc]
  refine ⟨W.aE,fun cO fL=>?_,?_,fun d R=>W.mu d (CE ▸ R)⟩
  · rcases fb.1 fL with rfl|fL
    · exact c j (W.cC ar oU)
    · exact W.cC cO (by simp [fL])
  · have:=l7.1 W.gX
    refine l7.2 ⟨fun cO fL d R=>this.1 cO fL d (bc ▸ R),this.2⟩
def a'.EE{eu C:List aB}:a' (eu++C) (c1 eu :: C):=fun _ _ _ W=>cl.oA.2 W
def a'.o6{eu:List aB}:a' [c1 eu] eu:=fun _ _ _ W=>by have:=cl.oA.1 W;simpa using this
def a'.qj{eu:List aB}:a' eu [c1 eu]:=fun _ _ _ W=>cl.oA.2 (by simpa using W)
def Ca{ar:aB}{eu:List aB}(bI:ar∈eu):∀ j,(c1 eu).holds j→ar.holds j∧∀ d∈ar.dT,d∈(c1 eu).dT:=fun _ c=>⟨c.1 ar bI,fun _ R=>jO.2 ⟨ar,bI,R⟩⟩
section
variable {o:Program} {z:FuncId} {args:Array Value} {dO wl C:List aB} {post A6:Value→List aB→Prop}
def M.xm(c:M o z args dO C A6)(ad:∀ m B,A6 m B→post m B):M o z args dO C post:=fun j fM ci=>(c j fM ci).mono fun _ _ ⟨m,B,aC,hu,W⟩=>⟨m,B,aC,ad m B hu,W⟩
def M.PZ(c:M o z args wl C post)(G:∀ pv∈wl,∃ ar∈dO,∀ j,ar.holds j→pv.holds j∧∀ d∈pv.dT,d∈ar.dT):M o z args dO C post:=fun j fM ci=>c j (fun pv z8=>by
  obtain ⟨ar,bI,NL⟩:=G pv z8
  obtain ⟨J,aA⟩:=NL j (fM ar bI).1
  exact ⟨J,fun d R=>(fM ar bI).2 d (aA d R)⟩) ci
def M.Ys(c:M o z args wl [] A6)(G:∀ pv∈wl,∃ ar∈C,∀ j,ar.holds j→pv.holds j∧∀ d∈pv.dT,d∈ar.dT)(J:∀ m h8,A6 m h8→post m (h8++C)):M o z args dO C post:=fun j _ ci=>by
  have Wp:cl j (ei C) ([]++C) j:=ci
  refine (c j (fun pv z8=>?_) Wp.fy).mono ?_
  · obtain ⟨ar,bI,NL⟩:=G pv z8
    exact ⟨(NL j (ci.cC ar bI)).1,fun d _ hB=>by simp [ei] at hB⟩
  · rintro r bQ ⟨m,h8,rfl,ad,W⟩
    exact ⟨m,h8++C,rfl,J m h8 ad,Wp.o3 W⟩
end
end Go.LK
namespace Go.LK
open Go Go.RowKit
section
variable {o:Program} {b0:Option Nat} {t:Nat} {fQ:List Deferred} {axS cz:Exit→Act→World→Prop} {ak:Array Oper}
end
section
variable {i:cM} {b:mz} {d:List eH} {D:bW} {C:List aB} {ak:Array Oper}
end
end Go.LK
namespace Go.LK
open Go Go.RowKit
def wc(o:Program)(y:Nat)(u:TypeId)(e F:Value)(p:Bool):Prop:=∀ j,(Op.equalIn y u e F).run o j=.ok p j
inductive BI (o:Program) (y:Nat) (dq pr:Array Value):List Field→Bool→Prop
  | nil:BI o y dq pr [] true
  | cons {z : Field} {aH : List Field} {e F : Value} {is j4 : Bool} (aw : (z.name == "_") = false) (Q : ∀ j, (part z.type dq z.offset).run o j = .ok e j) (az : ∀ j, (part z.type pr z.offset).run o j = .ok F j) (c : wc o y z.type e F is) (W : BI o y dq pr aH j4) : BI o y dq pr (z :: aH) (is && j4)
section
variable {o:Program} {y:Nat} {u:TypeId} {dq pr:Array Value} {m:Value}
def wc.int{l p:Int}(bp:o.underlying u=some (.int .i64)):wc o (y+1) u (.b l) (.b p) (decide (l=p)):=fun j=>by rw [run_equalIn_int j y u .i64 .i64 l p bp];rfl
def wc.bool{l p:Bool}(bp:o.underlying u=some .bool):wc o (y+1) u (.bool l) (.bool p) (l == p):=fun j=>run_equalIn_bool j y u l p bp
def BI.run{aH:List Field}{p:Bool}(c:BI o y dq pr aH p)(j:World):(Op.eqFields y dq pr aH).run o j=.ok p j:=by
  induction c with
  | nil=>rfl
  | cons aw Q az c W b6 =>
    rename_i z aH e F is j4
    have mK : ¬ z.name = "_" := by simpa using aw
    simp only [Op.eqFields,ee mK,nn,Q,az,k7,c j]
    cases is
    · simp
    · simpa using b6
def wc.struct{aH:Array Field}{p:Bool}(cF:o.underlying u=some (.struct aH))(ad:o.stoodInHeld u=false)(c:BI o y dq pr aH.toList p):wc o (y+1) u (.agg dq) (.agg pr) p:=fun j=>by
  have G:o.fieldsOf u=aH:=by simp [Program.fieldsOf,cF]
  rw [run_equalIn_struct j y u _ _ (by rw [G];exact cF) ad,G]
  exact c.run j
def j_{off:Nat}(qp:∀ j,(isAgg u).run o j=.ok false j)(c:dq[off]?=some m):∀ j,(part u dq off).run o j=.ok m j:=fun j=>by simp [part,qp,c]
def JQ{off s:Nat}{f:List Value}(qp:∀ j,(isAgg u).run o j=.ok true j)(ce:∀ j,(sizeOf u).run o j=.ok s j)(c:dq.extract off (off+s)=f.toArray):∀ j,(part u dq off).run o j=.ok (.agg f.toArray) j:=fun j=>by simp [part,qp,ce,c]
end
section
variable {i:cM} {D:bW} {aX:TypeId} {e F:Operand} {Y:TypeId} {dq pr:Array Value} {p:Bool}
def U.aiM(bq:i.o.eqGuardType i.o.depth Y=false)(c:wc i.o 10000 Y (.agg dq) (.agg pr) p)(Q:aT D e=some (.agg dq))(az:aT D F=some (.agg pr)):U i D (.binOp .eql Y e F Y) aX (.bool p):=fun l j V _ _ _ _=>by
  simp only [execOp,V.aT Q,V.aT az,nn,run_eqGuard_agg j .eql Y e F _ _ bq,k7,run_eql_struct,c j,se]
def U.Xs(bq:i.o.eqGuardType i.o.depth Y=false)(c:wc i.o 10000 Y (.agg dq) (.agg pr) p)(Q:aT D e=some (.agg dq))(az:aT D F=some (.agg pr)):U i D (.binOp .neq Y e F Y) aX (.bool !p):=fun l j V _ _ _ _=>by
  simp only [execOp,V.aT Q,V.aT az,nn,run_eqGuard_agg j .neq Y e F _ _ bq,k7,run_neq_struct,c j,se]
end
end Go.LK
namespace Go.LK
open Go
structure cR where
  O:Int
  aa:Int
  aP:Int
  cC:Int
def cR.cells(d:cR):List Value:=[d.O,d.aa,d.aP,d.cC]
def cR.one{f:List cR}:∀ l∈f,(cR.cells l).all Value.oneCell'=true:=fun _ _=>rfl
structure SS where
  j:Int
  A:Int
  s:Int
  u:Int
  H:Int
  bD:Int
  cb:Int
  bJ:Int
  bR:Int
  b4:Int
  bY:Int
  b_:Int
  cy:Int
  dA:Value
  ok:dA.oneCell'=true
end Go.LK
namespace Go.LK.ab
open Go Go.LK
def tt:cR:=⟨0,0,0,0⟩
def dU:Option cR→cR
  | none=>tt
  | some d=>d
abbrev ht:=Nat→Option cR
def cc(s dr:Int):Int:=if 0 > (if dr < s then dr else s) then 0 else (if dr < s then dr else s)
def gP(s:Int){dr:Int}(c:0≤dr):0≤cc s dr∧cc s dr≤dr:=by
  unfold cc;split<;>split<;>omega
def h1(s:Int):Int:=cc s 1099511627776
def Gt(s:Int):0≤h1 s∧h1 s≤1099511627776:=gP s bd
def left(l p:Int):Int:=h1 (h1 l-h1 p)
def gu(O:Int):Bool:=decide (0≤O)&&decide (O < 8)
def ub{O:Int}:gu O=true↔0≤O∧O < 8:=by simp [gu]
def VF{O:Int}(c:O < 0∨7 < O):gu O=false:=by
  cases d_:gu O with
  | false=>rfl
  | true=>have:=ub.1 d_;omega
def FO(v:Option cR)(O aa aP x:Int):cR:=match v with
  | none=>⟨O,aa,aP,h1 x⟩
  | some d=>if d.aP < aP then ⟨O,aa,aP,h1 x⟩ else ⟨d.O,d.aa,d.aP,h1 x⟩
def W_(v:Option cR)(aP:Int):Bool:=match v with
  | none=>false
  | some d=>decide (aP < d.aP)
def h5(y:ht)(O:Int)(d:cR):ht:=fun k=>if (k:Int)=O then some d else y k
def fA(y:ht)(O aa aP x:Int):ht×Bool:=if gu O=true∧W_ (y O.toNat) aP=false then (h5 y O (FO (y O.toNat) O aa aP x),true) else (y,false)
def get(y:ht)(bD O x:Int):cR×Bool:=if gu O=true then (match y O.toNat with
  | some d=>if left x d.cC≤bD then (d,true) else (tt,false)
  | none=>(tt,false)) else (tt,false)
def nil:ht:=fun _=>none
def iC(bD:Int)(y:ht):List Value:=[.bool true,.b bD,
  .bool (y 0).isSome,.b (dU (y 0)).O,.b (dU (y 0)).aa,.b (dU (y 0)).aP,.b (dU (y 0)).cC,
  .bool (y 1).isSome,.b (dU (y 1)).O,.b (dU (y 1)).aa,.b (dU (y 1)).aP,.b (dU (y 1)).cC,
  .bool (y 2).isSome,.b (dU (y 2)).O,.b (dU (y 2)).aa,.b (dU (y 2)).aP,.b (dU (y 2)).cC,
  .bool (y 3).isSome,.b (dU (y 3)).O,.b (dU (y 3)).aa,.b (dU (y 3)).aP,.b (dU (y 3)).cC,
  .bool (y 4).isSome,.b (dU (y 4)).O,.b (dU (y 4)).aa,.b (dU (y 4)).aP,.b (dU (y 4)).cC,
  .bool (y 5).isSome,.b (dU (y 5)).O,.b (dU (y 5)).aa,.b (dU (y 5)).aP,.b (dU (y 5)).cC,
  .bool (y 6).isSome,.b (dU (y 6)).O,.b (dU (y 6)).aa,.b (dU (y 6)).aP,.b (dU (y 6)).cC,
  .bool (y 7).isSome,.b (dU (y 7)).O,.b (dU (y 7)).aa,.b (dU (y 7)).aP,.b (dU (y 7)).cC]
def Kw(v:Option cR):List Value:=[.bool v.isSome,.b (dU v).O,.b (dU v).aa,.b (dU v).aP,.b (dU v).cC]
section
variable {y:ht} {O aa aP x bD:Int} {d:cR} {k b s t off:Nat} {f:List cR} {m:Value}
def Nd(c:0≤O∧O < 8):O=0∨O=1∨O=2∨O=3∨O=4∨O=5∨O=6∨O=7:=by omega
def ai2(c:b < 5):b=0∨b=1∨b=2∨b=3∨b=4:=by omega
def Bi(c:0≤O∧O < 8)(bw:off=2+O.toNat*5+b)(ba:(Kw (y O.toNat))[b]?=some m):(iC bD y)[off]?=some m:=by
  have ac:b < 5:=(dD.1 ba).1
  subst bw
  rw [←ba]
  rcases Nd c with c|c|c|c|c|c|c|c<;>subst c<;>rcases ai2 ac with ac|ac|ac|ac|ac<;>subst ac<;>rfl
def ZA(c:0≤O∧O < 8)(bw:off=2+O.toNat*5):((iC bD y).drop off).take 5=Kw (y O.toNat):=by
  exact Sm
def awe(c:0≤O∧O < 8)(bw:off=2+O.toNat*5+1):((iC bD y).drop off).take 4=cR.cells (dU (y O.toNat)):=by
  exact Sm
def Gr(c:0≤O∧O < 8)(bw:off=2+O.toNat*5+b)(aw:b+s≤5):Nat.ble (off+s) (iC bD y).length=true:=by
  have:(iC bD y).length=42:=rfl
  rw [aar,this];omega
def ZB(c:0≤O∧O < 8)(bw:off=2+O.toNat*5):(iC bD y).take off++Kw (some d)++(iC bD y).drop (off+(Kw (some d)).length)=iC bD (h5 y O d):=by
  exact Sm
def rB(y:ht)(O s:Int):cR:={ dU (y O.toNat) with cC:=s }
def Qr(c:0≤O∧O < 8)(bw:off=2+O.toNat*5+4)(W:(y O.toNat).isSome=true)(s:Int):(iC bD y).take off++[.b s]++(iC bD y).drop (off+[Value.b s].length)=iC bD (h5 y O (rB y O s)):=by
  subst bw
  obtain ⟨d,R⟩:=uK.1 W
  have dQ:(h5 y O (rB y O s)) O.toNat=some (rB y O s):=ee E
  rcases Nd c with c|c|c|c|c|c|c|c<;>subst c<;>simp [iC,h5,rB,dU] at R ⊢<;>simp [R]
def Gy(c:0≤O){e:cR}:h5 y O e O.toNat=some e:=ee E
def ZK{e F:cR}:h5 (h5 y O e) O F=h5 y O F:=by
  funext k;unfold h5;split<;>rfl
def Jj(c:gu O=false):fA y O aa aP x=(y,false):=be sg
def Jg(ao:y O.toNat=some d)(c:aP < d.aP):fA y O aa aP x=(y,false):=be (by simp [ao,W_,c])
def Ji(d_:gu O=true)(ao:y O.toNat=none):fA y O aa aP x=(h5 y O ⟨O,aa,aP,h1 x⟩,true):=by
  unfold fA;rw [ee ⟨d_,by rw [ao];rfl⟩,ao];rfl
def Jh(d_:gu O=true)(ao:y O.toNat=some d)(c:d.aP < aP):fA y O aa aP x=(h5 y O ⟨O,aa,aP,h1 x⟩,true):=by
  unfold fA;rw [ee ⟨d_,by rw [ao];exact p4 E⟩,ao];simp [FO,c]
def Jk(d_:gu O=true)(ao:y O.toNat=some d)(c:d.aP=aP):fA y O aa aP x=(h5 y O ⟨d.O,d.aa,d.aP,h1 x⟩,true):=by
  unfold fA;rw [ee ⟨d_,by rw [ao];exact p4 E⟩,ao];simp [FO,show ¬d.aP < aP from by omega]
def UY(c:gu O=false):get y bD O x=(tt,false):=be sg
def UW(ao:y O.toNat=none):get y bD O x=(tt,false):=by unfold get;rw [ao];simp
def UX(ao:y O.toNat=some d)(c:¬left x d.cC≤bD):get y bD O x=(tt,false):=by unfold get;rw [ao];simp [c]
def UZ(d_:gu O=true)(ao:y O.toNat=some d)(c:left x d.cC≤bD):get y bD O x=(d,true):=by unfold get;rw [ee d_,ao];simp [c]
def oY(y:ht):Prop:=∀ (k:Nat) (d:cR),k < 8→y k=some d→d.O=(k:Int)
def oY.nil:oY nil:=fun _ _ _ c=>by cases c
def oY.fA(c:oY y):oY (fA y O aa aP x).1:=by
  unfold ab.fA
  split
  · rename_i aS
    intro k d ag R
    have kE:(if (k:Int)=O then some (FO (y O.toNat) O aa aP x) else y k)=some d:=R
    split at kE
    · rename_i CI
      cases kE
      unfold FO
      cases ao:y O.toNat with
      | none=>exact CI.symm
      | some A =>
        simp only
        split
        · exact CI.symm
        · exact (c _ A E ao).trans E
    · exact c k d ag kE
  · exact c
def iA(y:ht)(s:Nat):List cR:=(List.range s).filterMap y
def row(y:ht):List cR:=iA y 8
def at'(c:y s=none):iA y (s+1)=iA y s:=by unfold iA;rw [rm,qG];simp [c]
def YQ(c:y s=some d):iA y (s+1)=iA y s++[d]:=by unfold iA;rw [rm,qG];simp [c]
def Gg(y:ht)(s:Nat):(iA y s).length≤s:=by unfold iA;exact iZ (Ds _ _) oU
def Kd(y:ht):(row y).length≤8:=Gg y 8
def qU(f:List cR)(O:Int):Int:=match f.findIdx? (fun d=>decide (d.O=O)) with
  | some b=>b
  | none=>-1
def ai5(aw:∀ (k:Nat) (e:cR),k < b→f[k]?=some e→¬e.O=O)(c:f[b]?=some d)(R:d.O=O):qU f O=b:=by
  have:f.findIdx? (fun d=>decide (d.O=O))=some b:=by
    rw [nS]
    obtain ⟨S,aC⟩:=dD.1 c
    refine ⟨S,c9 (aC ▸ R),fun k ag=>?_⟩
    have:=aw k _ ag (et E)
    simpa using this
  unfold qU;rw [this]
def EM(aw:∀ (k:Nat) (e:cR),f[k]?=some e→¬e.O=O):qU f O=-1:=by
  have:f.findIdx? (fun d=>decide (d.O=O))=none:=by
    rw [KL]
    intro e Q
    obtain ⟨k,ag⟩:=kw.1 Q
    exact p4 (aw k e ag)
  unfold qU;rw [this]
def ai4(f:List cR)(O:Int):(qU f O=-1∧∀ e∈f,¬e.O=O)∨∃ (b:Nat) (d:cR),qU f O=b∧f[b]?=some d∧d.O=O:=by
  unfold qU
  cases c:f.findIdx? (fun d=>decide (d.O=O)) with
  | none =>
    rw [KL] at c
    exact .inl ⟨rfl,fun e Q=>by simpa using c e Q⟩
  | some b =>
    rw [nS] at c
    obtain ⟨S,ad,_⟩:=c
    exact .inr ⟨b,f[b],rfl,et S,by simpa using ad⟩
def Pk{e:cR}:e∈iA y s↔∃ k,k < s∧y k=some e:=by
  unfold iA;rw [vT]
  exact ⟨fun ⟨k,ag,c⟩=>⟨k,kd.1 ag,c⟩,fun ⟨k,ag,c⟩=>⟨k,kd.2 ag,c⟩⟩
def UG{n:cR→Bool}(c:oY y)(ag:k < 8):(qU ((row y).filter n) (k:Int)=-1∧∀ d,y k=some d→n d=false)∨∃ (b:Nat) (d:cR),qU ((row y).filter n) (k:Int)=b∧((row y).filter n)[b]?=some d∧y k=some d∧n d=true:=by
  rcases ai4 ((row y).filter n) (k:Int) with ⟨G,J⟩|⟨b,d,G,J,aA⟩
  · refine .inl ⟨G,fun d R=>?_⟩
    cases ad:n d with
    | false=>rfl
    | true=>exact absurd (c k d ag R) (J d (pt.2 ⟨Pk.2 ⟨k,ag,R⟩,ad⟩))
  · have bh:=pt.1 (eF J)
    obtain ⟨eM,jK,R⟩:=Pk.1 bh.1
    have:=c eM d jK R
    have IQ:eM=k:=by omega
    subst IQ
    exact .inr ⟨b,d,G,J,R,bh.2⟩
def Ij(c:oY y)(ag:k < 8):(qU (row y) (k:Int)=-1∧y k=none)∨∃ (b:Nat) (d:cR),qU (row y) (k:Int)=b∧(row y)[b]?=some d∧y k=some d:=by
  have bc:(row y).filter (fun _=>true)=row y:=rk.2 fun _ _=>rfl
  rcases UG (n:=fun _=>true) c ag with ⟨G,J⟩|⟨b,d,G,J,aA,_⟩
  · rw [bc] at G
    refine .inl ⟨G,?_⟩
    cases ao:y k with
    | none=>rfl
    | some d=>have:=J d ao;cases this
  · rw [bc] at G J
    exact .inr ⟨b,d,G,J,aA⟩
def kr(bD x:Int)(d:cR):Bool:=decide (left x d.cC≤bD)
def all(y:ht)(bD x:Int):List cR:=(row y).filter (kr bD x)
def ajE(c:oY y):(qU (all y bD x) O=-1∧get y bD O x=(tt,false))∨∃ (b:Nat) (d:cR),qU (all y bD x) O=b∧(all y bD x)[b]?=some d∧get y bD O x=(d,true):=by
  by_cases d_:gu O=true
  · have bA:=ub.1 d_
    obtain ⟨k,rfl⟩:∃ k:Nat,O=(k:Int):=⟨O.toNat,by omega⟩
    have pc:((k:Int)).toNat=k:=by simp
    rcases UG (n:=kr bD x) c (show k < 8 from by omega) with ⟨G,J⟩|⟨b,d,G,J,aA,aZ⟩
    · refine .inl ⟨G,?_⟩
      cases ao:y k with
      | none=>exact UW (by rw [pc];exact ao)
      | some d=>exact UX (by rw [pc];exact ao) (fa (J d ao))
    · exact .inr ⟨b,d,G,J,UZ d_ (by rw [pc];exact aA) (dp aZ)⟩
  · refine .inl ⟨EM fun k e Q aAK=>?_,UY (by simpa using d_)⟩
    have bh:=(pt.1 (eF Q)).1
    obtain ⟨eM,jK,R⟩:=Pk.1 bh
    have:=c eM e jK R
    exact d_ (ub.2 E)
def x0(f:List cR)(bD x:Int)(d:Nat):List cR:=(f.take d).filter (kr bD x)
def agp{e:cR}(Q:f[t]?=some e)(c:left x e.cC≤bD):x0 f bD x (t+1)=x0 f bD x t++[e]:=by
  exact acB
def ago{e:cR}(Q:f[t]?=some e)(c:¬left x e.cC≤bD):x0 f bD x (t+1)=x0 f bD x t:=by
  exact acB
def agn(c:f.length≤t):x0 f bD x t=f.filter (kr bD x):=by unfold x0;rw [ir c]
def awA{e:cR}(c:(s:Int)=O):h5 y O e s=some e:=ee c
def ZJ{e:cR}(c:¬(s:Int)=O):h5 y O e s=y s:=be c
end
section
variable {H O bD x id s br:Int} {f z:List aK} {d l p:Nat} {r m:aK} {y:ht}
def aCy(y:ht)(m:aK):ht:=if m.iz=11 then nil else if m.iz=8 then (fA y m.l m.p m.id m.h1).1 else y
def aCz(H:Int)(f:List aK):ht:=(aeo.eo H f).foldl aCy nil
def MD(bD:Int):Bool:=decide (bD < 0) || decide (1099511627776 < bD)
def aCK(H O bD x:Int)(f:List aK):cR×Bool:=if MD bD=true then (tt,false) else get (aCz H f) bD O x
def r6(s u:Int):Bool:=decide (0≤s)&&decide (s < u)
def WD(ej:List SS)(m:aK):Prop:=¬(m.H < 0∨(ej.length:Int)≤m.H∨m.l < 0∨(ej.length:Int)≤m.l)
instance{ej:List SS}{m:aK}:Decidable (WD ej m):=by unfold WD;infer_instance
end
end Go.LK.ab
namespace Go.LK
open Go Go.RowKit
class jh (o:Program) where
  z:Nat→Nat→Option Nat
  ok:∀ Y b v,z Y b=some v→∃ aH x' H,(∀ j,(underlying Y).run o j=.ok (.struct aH) j)∧aH[b]?=some x'∧(∀ j,(sizeOf x'.type).run o j=.ok H j)∧Nat.blt 0 H=true∧x'.offset=v
def Mf(o:Program)(Y b v:Nat):Prop:=∃ aH x' H,(∀ j,(underlying Y).run o j=.ok (.struct aH) j)∧aH[b]?=some x'∧(∀ j,(sizeOf x'.type).run o j=.ok H j)∧Nat.blt 0 H=true∧x'.offset=v
def Ik:List (Nat×Nat×Nat)→Nat→Nat→Option Nat
  | [],_,_=>none
  | (Y,b,v) :: f,fU,k=>bif Nat.beq Y fU&&Nat.beq b k then some v else Ik f fU k
def UH{o:Program}:∀ {f:List (Nat×Nat×Nat)},(∀ r∈f,Mf o r.1 r.2.1 r.2.2)→∀ {Y b v:Nat},Ik f Y b=some v→Mf o Y b v
  | [],_,_,_,_,c=>by cases c
  | (Y,b,v) :: f,V,fU,k,A,c=>by
    unfold Ik at c
    cases av:(Nat.beq Y fU&&Nat.beq b k) with
    | true =>
      rw [av] at c
      cases c
      simp only [h6] at av
      obtain rfl:=Br av.1
      obtain rfl:=Br av.2
      exact V _ (p5 ..)
    | false =>
      rw [av] at c
      exact UH (fun r aC=>V r (gS _ aC)) c
@[reducible] def jh.ofList{o:Program}(f:List (Nat×Nat×Nat))(c:∀ r∈f,Mf o r.1 r.2.1 r.2.2):jh o:=⟨Ik f,fun _ _ _ a6=>UH c a6⟩
def T3:BinOp→Int→Int→Option Bool
  | .lss,t,s=>some (decide (t < s))
  | .leq,t,s=>some (decide (t≤s))
  | .gtr,t,s=>some (decide (s < t))
  | .geq,t,s=>some (decide (s≤t))
  | .eql,t,s=>some (decide (t=s))
  | .neq,t,s=>some (decide (t≠s))
  | _,_,_=>none
def O1:IntKind→IntKind→Bool
  | .i64,.i64=>true
  | .u8,.u8=>true
  | .u64,.u64=>true
  | .i32,.i32=>true
  | .u32,.u32=>true
  | .u16,.u16=>true
  | _,_=>false
def aoK{l p:IntKind}(c:O1 l p=true):l=p:=by cases l<;>cases p<;>first|rfl|cases c
def F8(o:Program)[jh o](D:bW):Op→Option Value
  | .move e=>aT D e
  | .assign e=>aT D e
  | .pick A e F=>match aT D A with
    | some (.bool true)=>aT D e
    | some (.bool false)=>aT D F
    | _=>none
  | .nilCheck e=>match aT D e with
    | some (.pointer (some l))=>some (.pointer (some l))
    | _=>none
  | .unOp .not _ e=>match aT D e with
    | some (.bool p)=>some (.bool !p)
    | _=>none
  | .binOp v Y e F fU=>match aT D e,aT D F with
    | some (.int d t),some (.int cD s)=>bif O1 d cD&&Nat.beq Y fU then (match T3 v t s with
      | some p=>some (.bool p)
      | none=>none) else none
    | _,_=>none
  | .extract e b=>match aT D e with
    | some (.tuple l)=>l.toList[b]?
    | _=>none
  | .fieldAddr Y e b=>match aT D e with
    | some (.pointer (some ⟨L,v,none⟩))=>match jh.z o Y b with
      | some A=>some (.pointer (some ⟨L,v+A,none⟩))
      | none=>none
    | _=>none
  | _=>none
def w'{i:cM}[jh i.o]{D:bW}{v:Op}{aX:TypeId}{m:Value}(c:F8 i.o D v=some m):U i D v aX m:=by
  unfold F8 at c
  split at c
  · exact U.move c
  · exact U.assign c
  · split at c
    · rename_i a6;exact U.s7 a6 rfl c
    · rename_i a6;exact U.w_ a6 rfl c
    · cases c
  · split at c
    · rename_i a6;cases c;exact U.nilCheck a6
    · cases c
  · split at c
    · rename_i a6;cases c;exact U.not a6
    · cases c
  · split at c
    · rename_i d t cD s Q az
      cases R:(O1 d cD&&Nat.beq _ _) with
      | false=>rw [R] at c;cases c
      | true =>
        rw [R] at c
        simp only [h6] at R
        obtain rfl:=aoK R.1
        obtain rfl:=Br R.2
        simp only [cond_true] at c
        split at c
        · rename_i p av
          cases c
          unfold T3 at av
          split at av<;>first|(cases av;done)|skip
          all_goals (simp only [Q6] at av;subst av)
          · exact U.lss Q az
          · exact U.leq Q az
          · exact U.gtr Q az
          · exact U.geq Q az
          · exact U.eql Q az
          · exact U.neq Q az
        · cases c
    · cases c
  · split at c
    · rename_i l Q
      exact U.extract (ae:=l.toList) (by simpa using Q) c
    · cases c
  · split at c
    · rename_i L v Q
      split at c
      · rename_i A a6
        cases c
        obtain ⟨aH,x',H,G,J,aA,aZ,bT⟩:=jh.ok _ _ _ a6
        exact U.fieldAddr G J aA aZ Q (by rw [bT])
      · cases c
    · cases c
  · cases c
inductive tJ where
  | kj
  | ak (l:Array Oper) (f:List Oper)
def BG(i:cM)(n:tJ)(d:List eH)(D:bW)(C:List aB):Prop:=match n with
  | .kj=>K i d D C
  | .ak l f=>w i l f d D C
def y7(ak:Array Oper)(s:Nat)(D:bW)(k:Nat)(db:Bool):Option Bool :=
  match (ak[k]?).bind (·.dst) with
  | some u=>bif Nat.blt u s then (match gx D u with
    | some (.bool true)=>some db
    | some (.bool false)=>some (!db)
    | some (.agg _)=>some false
    | some m=>(match o4 m with
      | none=>some false
      | some _=>none)
    | none=>none) else none
  | none=>none
def qx(o:Program)[jh o](s:Nat)(ak:Array Oper)(D:bW):Oper→Option bW
  | ⟨some y,v,_,_,_,none⟩=>bif Nat.blt y s then (match F8 o D v with
    | some m=>some ((y,m) :: D)
    | none=>none) else none
  | ⟨some y,v,_,_,_,some (k,db)⟩=>bif Nat.blt y s then (match y7 ak s D k db with
    | some true=>(match F8 o D v with
      | some m=>some ((y,m) :: D)
      | none=>none)
    | some false=>some ((y,undef) :: D)
    | none=>none) else none
  | _=>none
def EH(D:bW):List eH→Option (tJ×List eH)
  | .cE _ :: d=>some (.kj,d)
  | .po :: d=>some (.kj,d)
  | .code A :: d=>match A with
    | .seq e F=>some (.kj,.code e :: .code F :: d)
    | .block id e=>some (.kj,.code e :: .cE id :: d)
    | .scope e=>some (.kj,.code e :: .po :: d)
    | .skip=>some (.kj,d)
    | .label _=>some (.kj,d)
    | .exit id=>(match nI id d with
      | some cD=>some (.kj,cD)
      | none=>none)
    | .cond e u z=>(match aT D e with
      | some (.bool true)=>some (.kj,.code u :: d)
      | some (.bool false)=>some (.kj,.code z :: d)
      | _=>none)
    | .region _ ak false=>some (.ak ak ak.toList,d)
    | _=>none
  | _=>none
def u5(o:Program)[jh o](s:Nat):Nat→tJ→List eH→bW→Option (tJ×List eH×bW)
  | 0,n,d,D=>some (n,d,D)
  | z+1,.kj,d,D=>match EH D d with
    | some (n,cD)=>u5 o s z n cD D
    | none=>none
  | z+1,.ak _ [],d,D=>u5 o s z .kj d D
  | z+1,.ak l (v :: f),d,D=>match qx o s l D v with
    | some du=>u5 o s z (.ak l f) d du
    | none=>none
section
variable {i:cM} {d cD:List eH} {D du:bW} {C:List aB} {n ks:tJ} {ak:Array Oper}
def M3(c:EH D d=some (n,cD))(ag:BG i n cD D C):K i d D C:=by
  unfold EH at c
  split at c
  · cases c;exact K.cE ag
  · cases c;exact K.po ag
  · split at c
    · cases c;exact K.seq ag
    · cases c;exact K.block ag
    · cases c;exact K.scope ag
    · cases c;exact K.skip ag
    · cases c;exact K.label ag
    · split at c
      · rename_i ad;cases c;exact K.exit _ ad ag
      · cases c
    · split at c
      · rename_i Q;cases c;exact K.lN Q rfl ag
      · rename_i Q;cases c;exact K.fZ Q rfl ag
      · cases c
    · rename_i ak
      cases c
      obtain ⟨f⟩:=ak
      exact K.region ag
    · cases c
  · cases c
def sc{l:Act}{s k:Nat}{db p:Bool}{v:Oper}(c:y7 ak s D k db=some p)(V:hH s l D)(bq:v.guard=some (k,db)):Region.wanted v (yielded ak l.tmps)=p:=by
  unfold y7 at c
  split at c
  · rename_i u bA
    cases av:Nat.blt u s with
    | false=>rw [av] at c;cases c
    | true =>
      rw [av,cond_true] at c
      split at c
      · rename_i S;cases c
        cases db
        · exact y8 V bq bA S (by simp [o4]) av
        · exact xl V bq bA S av
      · rename_i S;cases c
        cases db
        · exact xl V bq bA S av
        · exact y8 V bq bA S (by simp [o4]) av
      · rename_i S;cases c;exact y8 V bq bA S (by simp [o4]) av
      · rename_i m S
        split at c
        · rename_i aw;cases c;exact y8 V bq bA S (by rw [aw];simp) av
        · cases c
      · cases c
  · cases c
def PD[jh i.o]{v:Oper}{f:List Oper}(c:qx i.o i.s ak D v=some du)(ag:w i ak f d du C):w i ak (v :: f) d D C:=by
  unfold qx at c
  split at c
  · rename_i y v _ _ _
    cases ao:Nat.blt y i.s with
    | false=>rw [ao] at c;cases c
    | true =>
      rw [ao,cond_true] at c
      split at c
      · rename_i m ba;cases c;exact w.n (w' ba) ao ag
      · cases c
  · rename_i y v _ _ _ k db
    cases ao:Nat.blt y i.s with
    | false=>rw [ao] at c;cases c
    | true =>
      rw [ao,cond_true] at c
      split at c
      · rename_i bU
        split at c
        · rename_i m ba;cases c
          exact fun ok l j V W=>wpList_step fun _ dj=>by
            rw [sc bU V rfl,ee rfl]
            exact KI (w' ba l j V _ _ _ _) (dj _ _ (ag ok _ j (V.put m ao) W))
        · cases c
      · rename_i bU
        cases c
        exact fun ok l j V W=>wpList_step fun _ dj=>by
          rw [sc bU V rfl,be oU]
          exact dj _ _ (ag ok _ j (V.put undef ao) W)
      · cases c
  · cases c
def zO[jh i.o]:∀ {z:Nat} {n:tJ} {d:List eH} {D:bW},u5 i.o i.s z n d D=some (ks,cD,du)→BG i ks cD du C→BG i n d D C
  | 0,n,d,D,c,ag=>by cases c;exact ag
  | z+1,.kj,d,D,c,ag=>by
    unfold u5 at c
    split at c
    · rename_i W;exact M3 W (zO c ag)
    · cases c
  | z+1,.ak l [],d,D,c,ag=>w.nil (zO (z:=z) (n:=.kj) c ag)
  | z+1,.ak l (v :: f),d,D,c,ag=>by
    unfold u5 at c
    split at c
    · rename_i W;exact PD W (zO (n:=.ak l f) c ag)
    · cases c
def K.fC[jh i.o](z:Nat)(c:u5 i.o i.s z .kj d D=some (.kj,cD,du))(ag:K i cD du C):K i d D C:=zO (n:=.kj) c ag
def K.eV[jh i.o]{l:Array Oper}{f:List Oper}(z:Nat)(c:u5 i.o i.s z .kj d D=some (.ak l f,cD,du))(ag:w i l f cD du C):K i d D C:=zO (n:=.kj) c ag
def w.dw[jh i.o]{l:Array Oper}{f:List Oper}(z:Nat)(c:u5 i.o i.s z (.ak l f) d D=some (.kj,cD,du))(ag:K i cD du C):w i l f d D C:=zO (n:=.ak l f) c ag
def w.e1[jh i.o]{l jE:Array Oper}{f hY:List Oper}(z:Nat)(c:u5 i.o i.s z (.ak l f) d D=some (.ak jE hY,cD,du))(ag:w i jE hY cD du C):w i l f d D C:=zO (n:=.ak l f) c ag
end
end Go.LK
