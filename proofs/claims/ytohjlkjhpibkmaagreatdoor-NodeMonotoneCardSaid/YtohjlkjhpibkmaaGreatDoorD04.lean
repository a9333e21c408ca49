/-
  Rules and plain laws that the walks use.
-/
import Derived.Test.YtohjlkjhpibkmaaGreatDoorD03
import Derived.OrdersIn
import Derived.Test.YtohjlkjhpibkmaaGreatDoorD01
import Derived.Test.YtohjlkjhpibkmaaGreatDoorD02
set_option linter.unusedSimpArgs false
set_option linter.unusedVariables false
namespace Go.LK
open Go Go.RowKit
section
variable {α:Type} {f:α→Value} {m:List (Int×α)} {c:Cx} {E:Env} {L:List Sp} {ty T k e:TypeId} {x y z:Operand} {b:Nat}
theorem run_setObjB {P:Program} {w:World} {arr:Array MapEntry} {clock:Nat} {o':Obj} (h:w.heap[b]?=some (.map arr clock)):(setObj b o').run P w=.ok () { w with heap:=w.heap.setIfInBounds b o' }:=by simp [setObj,Sem.run,h]
theorem frame_set (w:World) (b:Nat) (o:Obj):Frame w [b] { w with heap:=w.heap.setIfInBounds b o }:=⟨rfl,rfl,rfl,by simp,fun j _ hj=>by
  have:b≠j:=fun e=>hj (by simp [e])
  simp [Array.getElem?_setIfInBounds_ne this]⟩
theorem heap_set {w:World} {b:Nat} {o o':Obj} (h:w.heap[b]?=some o'):({ w with heap:=w.heap.setIfInBounds b o }:World).heap[b]?=some o:=by
  have hb:b < w.heap.size:=(Array.getElem?_eq_some_iff.1 h).1
  simp [hb]
theorem run_putI {P:Program} {w:World} {key:Int} {u:α} (hT:P.underlying T=some (.map k e)) (hk:P.underlying k=some (.int .i64)) (hm:(mi b f m).holds w) :
    ∃ w',(Instr.mapUpdate T (.map (some b)) (.int .i64 key) (f u)).run P w=.ok () w'∧Frame w [b] w'∧(mi b f (putI m key u)).holds w':=by
  obtain ⟨arr,clock,h1,hM⟩:=hm
  have hf:=hM.find hk w key
  have hg:(getObj b).run P w=.ok (.map arr clock) w:=by simp [getObj,Sem.run,h1]
  have hc:∀ em,(Instr.checkKey em 10000 k (.int .i64 key)).run P w=.ok () w:=fun em=>(KT.int hk).check w em [key] rfl
  have hp:=hM.put key u
  cases hat:atI m key 0 with
  | none =>
    rw [hat] at hp
    refine ⟨_,?_,frame_set w b (.map (arr.push { key:=.int .i64 key,val:=f u,born:=clock }) (clock+1)),⟨_,_,heap_set h1,hp⟩⟩
    simp only [Instr.mapUpdate,Sem.run_bind,run_underlying hT,Result.andThen_ok,hg,hc,hf,hat,Option.map_none,run_setObjB h1]
  | some p =>
    obtain ⟨j,v⟩:=p
    rw [hat] at hp
    obtain ⟨hja,hkey,hp⟩:=hp
    have hst:(Instr.keyThatStays (((arr[j]?).map (·.key)).getD (.int .i64 key)) (.int .i64 key)).run P w=.ok (.int .i64 key) w:=by
      rw [hkey]
      simp [Instr.keyThatStays,Instr.sameBits]
    refine ⟨_,?_,frame_set w b (.map (arr.modify j fun e=>{ e with key:=.int .i64 key,val:=f u }) clock),⟨_,_,heap_set h1,hp⟩⟩
    simp only [Instr.mapUpdate,Sem.run_bind,run_underlying hT,Result.andThen_ok,hg,hc,hf,hat,Option.map_some,hst,run_setObjB h1]
theorem Lo.mapPut {key:Int} {u:α} (i:Nat) (hT:c.P.underlying T=some (.map k e)) (hk:c.P.underlying k=some (.int .i64)) (hx:ev E x=some (.map (some b))) (hy:ev E y=some (.int .i64 key)) (hz:ev E z=some (f u)) (hi:L[i]?=some (mi b f m)) :
    Lo c E L (.mapUpdate T x y z) ty fun _ L'=>L'=L.set i (mi b f (putI m key u)):=fun _ a w ha hst d pos af g K Q hK=>by
  obtain ⟨w',h1,h2,h3⟩:=run_putI (key:=key) (u:=u) hT hk (hst.at_ _ (List.mem_of_getElem? hi))
  exact wp_loud0 (w':=w') (by simp [execOp,ha.ev hx,ha.ev hy,ha.ev hz,h1]) (hK _ _ _ rfl (hst.set hi (by simpa [mi] using h2) h3 (by simp [mi])))
theorem Lo.mapDel {key:Int} {ts:Array TypeId} (i:Nat) (h0:ts[0]?=some T) (hT:c.P.underlying T=some (.map k e)) (hk:c.P.underlying k=some (.int .i64)) (hx:ev E x=some (.map (some b))) (hy:ev E y=some (.int .i64 key)) (hi:L[i]?=some (mi b f m)) :
    Lo c E L (.call { callee:=.builtin .delete,args:=#[x,y],argTypes:=ts }) ty fun _ L'=>L'=L.set i (mi b f (delI m key)):=fun _ a w ha hst d pos af g K Q hK=>by
  obtain ⟨arr,clock,h1,hM⟩:=hst.at_ _ (List.mem_of_getElem? hi)
  have hf:=hM.find hk w key
  have hg:(getObj b).run c.P w=.ok (.map arr clock) w:=by simp [getObj,Sem.run,h1]
  have hc:∀ em,(Instr.checkKey em 10000 k (.int .i64 key)).run c.P w=.ok () w:=fun em=>(KT.int hk).check w em [key] rfl
  have hp:=hM.del key
  have key:∃ arr',(Builtin.delete_ ts ty #[.map (some b),.int .i64 key]).run c.P w=.ok (.tuple #[]) { w with heap:=w.heap.setIfInBounds b (.map arr' clock) }∧MapI f (delI m key) arr' clock:=by
    cases hat:atI m key 0 with
    | none =>
      rw [hat] at hp
      refine ⟨arr,?_,hp⟩
      simp [Builtin.delete_,h0,run_underlying hT,Result.andThen,hg,hc,hf,hat,run_setObjB h1]
    | some p =>
      obtain ⟨j,v⟩:=p
      rw [hat] at hp
      refine ⟨arr.eraseIdxIfInBounds j,?_,hp⟩
      simp [Builtin.delete_,h0,run_underlying hT,Result.andThen,hg,hc,hf,hat,run_setObjB h1]
  obtain ⟨arr',h2,h3⟩:=key
  exact wp_loud (v:=.tuple #[]) (by simp [execOp,resolve,invoke,ha.ev hx,ha.ev hy,builtin,h2]) (hK _ _ _ rfl (hst.set hi (frame_set w b _) ⟨arr',clock,heap_set h1,h3⟩ (by simp [mi])))
theorem Lo.mapClear {ts:Array TypeId} (i:Nat) (h0:ts[0]?=some T) (hT:c.P.underlying T=some (.map k e)) (hx:ev E x=some (.map (some b))) (hi:L[i]?=some (mi b f m)) :
    Lo c E L (.call { callee:=.builtin .clear,args:=#[x],argTypes:=ts }) ty fun _ L'=>L'=L.set i (mi b f []):=fun _ a w ha hst d pos af g K Q hK=>by
  obtain ⟨arr,clock,h1,hM⟩:=hst.at_ _ (List.mem_of_getElem? hi)
  have hg:(getObj b).run c.P w=.ok (.map arr clock) w:=by simp [getObj,Sem.run,h1]
  have h2:(Builtin.clear_ ts ty #[.map (some b)]).run c.P w=.ok (.tuple #[]) { w with heap:=w.heap.setIfInBounds b (.map #[] clock) }:=by
    simp [Builtin.clear_,h0,run_underlying hT,Result.andThen,hg,run_setObjB h1]
  exact wp_loud (v:=.tuple #[]) (by simp [execOp,resolve,invoke,ha.ev hx,builtin,h2]) (hK _ _ _ rfl (hst.set hi (frame_set w b _) ⟨#[],clock,heap_set h1,MapI.nil⟩ (by simp [mi])))
theorem Lo.rangeM {arr:Array MapEntry} {clock:Nat} (i:Nat) (hT:c.P.underlying T=some (.map k e)) (hx:ev E x=some (.map (some b))) (hi:c.Ro[i]?=some (blk b (.map arr clock))) :
    Lo c E L (.range T x) ty fun v L'=>∃ g,v=.pointer (some ⟨g,0,none⟩)∧L'=blk g (.mapIter (some b) clock #[] clock) :: L:=fun ok a w ha hs d pos af g K Q hK=>by
  have hb:w.heap[b]?=some (.map arr clock):=c.ro ok hs hi
  have hg:(getObj b).run c.P w=.ok (.map arr clock) w:=by simp [getObj,Sem.run,hb]
  exact wp_loud (v:=.pointer (some ⟨w.heap.size,0,none⟩)) (w':=w.alloc (.mapIter (some b) clock #[] clock)) (by simp [execOp,ha.ev hx,Instr.range,run_underlying hT,Result.andThen,hg,newObj,Sem.run])
    (hK _ _ _ ⟨_,rfl,rfl⟩ (hs.alloc _))
theorem Lo.rangeNil (hT:c.P.underlying T=some (.map k e)) (hx:ev E x=some (.map none)) :
    Lo c E L (.range T x) ty fun v L'=>∃ g,v=.pointer (some ⟨g,0,none⟩)∧L'=blk g (.mapIter none 0 #[] 0) :: L:=fun ok a w ha hs d pos af g K Q hK =>
  wp_loud (v:=.pointer (some ⟨w.heap.size,0,none⟩)) (w':=w.alloc (.mapIter none 0 #[] 0)) (by simp [execOp,ha.ev hx,Instr.range,run_underlying hT,Result.andThen,newObj,Sem.run])
    (hK _ _ _ ⟨_,rfl,rfl⟩ (hs.alloc _))
theorem Lo.nextNil {g:Nat} (i:Nat) (hx:ev E x=some (.pointer (some ⟨g,0,none⟩))) (hi:L[i]?=some (blk g (.mapIter none 0 #[] 0))) :
    Lo c E L (.next x false) ty fun v L'=>v=.tuple #[.bool false]∧L'=L:=fun _ a w ha hst d pos af gd K Q hK=>by
  have hh:w.heap[g]?=some (.mapIter none 0 #[] 0):=hst.at_ _ (List.mem_of_getElem? hi)
  exact wp_loud (v:=.tuple #[.bool false]) (w':=w) (by simp [execOp,ha.ev hx,Instr.next,getObj,Sem.run,hh,Result.andThen]) (hK _ _ _ ⟨rfl,rfl⟩ hst)
theorem Lo.nextM {g:Nat} {arr:Array MapEntry} {clock:Nat} {seen:Array Nat} (i j:Nat) (hx:ev E x=some (.pointer (some ⟨g,0,none⟩))) (hi:L[i]?=some (blk g (.mapIter (some b) clock seen clock))) (hj:c.Ro[j]?=some (blk b (.map arr clock))) (hold:∀ x∈arr.toList,x.born < clock) :
    Lo c E L (.next x false) ty fun v L'=>((leftOf arr seen).size=0∧v=.tuple #[.bool false]∧L'=L)∨∃ en∈(leftOf arr seen).toList,v=.tuple #[.bool true,en.key,en.val]∧L'=L.set i (blk g (.mapIter (some b) clock (seen.push en.born) clock)):=fun ok a w ha hst d pos af gd K Q hK=>by
  have hr:w.heap[g]?=some (.mapIter (some b) clock seen clock):=hst.at_ _ (List.mem_of_getElem? hi)
  have hb:w.heap[b]?=some (.map arr clock):=c.ro ok hst hj
  rcases run_next_at (P:=c.P) w ty g b clock clock seen arr clock hr hb hold (Nat.le_refl _) with ⟨h0,h1⟩|⟨en,hen,w1,hw1,h1⟩
  · exact wp_loud (v:=.tuple #[.bool false]) (w':=w) (by simp [execOp,ha.ev hx,h1]) (hK _ _ _ (.inl ⟨h0,rfl,rfl⟩) hst)
  · have hst1:St c.w0 c.M L w1:=by
      rcases hw1 with rfl|rfl
      · exact hst
      · exact hst.drew _
    have hr1:w1.heap[g]?=some (.mapIter (some b) clock seen clock):=hst1.at_ _ (List.mem_of_getElem? hi)
    exact wp_loud (v:=.tuple #[.bool true,en.key,en.val]) (by simp [execOp,ha.ev hx,h1,ChangeMaps.setBlock]) (hK _ _ _ (.inr ⟨en,hen,rfl,rfl⟩) (hst1.set hi (frame_set w1 g _) (heap_set hr1) (by simp [blk])))
theorem Qt.entryM {g:Nat} {arr:Array MapEntry} {clock:Nat} {seen:Array Nat} {en:MapEntry} (i j:Nat) (hx:ev E x=some (.pointer (some ⟨g,0,none⟩))) (hi:L[i]?=some (blk g (.mapIter (some b) clock (seen.push en.born) clock))) (hj:c.Ro[j]?=some (blk b (.map arr clock)))
    (hen:en∈arr.toList) (hn:(arr.toList.map (·.born)).Nodup):Qt c E L (.entry x) ty (.tuple #[en.key,en.val]):=fun ok a w ha hst _ _ _ _=>by
  have hr:w.heap[g]?=some (.mapIter (some b) clock (seen.push en.born) clock):=hst.at_ _ (List.mem_of_getElem? hi)
  have hb:w.heap[b]?=some (.map arr clock):=c.ro ok hst hj
  have:=run_entry_at (P:=c.P) w g b clock seen arr clock en hr hb hen hn
  simp [execOp,ha.ev hx,this]
end
end Go.LK
namespace Go.LK
open Go Go.RowKit
def ItN (P:Program) (gf:Nat) (lb:Array Value) (Ro:List Sp) (nx:List (List Value)→List Value→Prop) (full:List (List Value)→Prop):Prop :=
  ∀ (l m:Nat) (X Z:Type) (φ:List (List Value)→X→Prop) (LL:X→List Sp) (ψ:Z→Prop) (LX:Z→List Sp) (Rx:List Sp) (W:World) (y0:X),
    (∀ A∈Ro++Rx,A.holds W∧∀ k∈A.foot,k∉feet (LL y0)) →
    (∀ vs y x W1,φ vs y→nx vs x→(∀ A∈Ro++Rx,A.holds W1∧∀ k∈A.foot,k∉feet (LL y))→St W1 (feet (LL y)) (LL y) W1 →
      YieldAt (FW none) (m-1) P l x.toArray W1 fun e W'=>(e=.returned (.bool true)∧∃ y',φ (vs++[x]) y'∧St W1 (feet (LL y)) (LL y') W')∨(e=.returned (.bool false)∧∃ z,ψ z∧St W1 (feet (LL y)) (LX z) W')) →
    φ [] y0→St W (feet (LL y0)) (LL y0) W →
    CallsIn (FW none) m P gf (#[.func (.yield l) #[] #[]]++lb) W fun e W'=>(∃ v,e=.returned v)∧((∃ vs y,full vs∧φ vs y∧St W (feet (LL y0)) (LL y) W')∨∃ z,ψ z∧St W (feet (LL y0)) (LX z) W')
theorem Cx.roAll {c:Cx} (ok:c.Ok) {L:List Sp} {w:World} (hs:St c.w0 c.M L w):∀ A∈c.Ro,A.holds w∧∀ k∈A.foot,k∉feet L:=fun A hA=>by
  obtain ⟨i,hi⟩:=List.mem_iff_getElem?.1 hA
  refine ⟨c.ro ok hs hi,fun k hk hk'=>?_⟩
  obtain ⟨h1,h2⟩:=ok A hA
  rcases hs.mine k hk' with h3|h3
  · have:=A.lt _ h1 k hk;omega
  · exact h2 k hk h3
theorem St.own {w0 w:World} {M:List Nat} {L R:List Sp} (h:St w0 M (L++R) w):St w (feet L) L w:=by
  have hpw:=List.pairwise_append.1 h.nd
  exact ⟨Frame.refl w _,fun A hA=>h.at_ A (by simp [hA]),hpw.1,fun k hk=>.inr hk⟩
theorem St.back {w0 w w':World} {M:List Nat} {L L' R:List Sp} (h:St w0 M (L++R) w) (h':St w (feet L) L' w'):St w0 M (L'++R) w' :=
  h.step h'.fr h'.at_ h'.nd (fun k hk=>(h'.mine k hk).symm)
section
variable {c:Cx} {i:Ci} {k:List It} {E:Env} {L:List Sp} {ops:Array Oper} {rest:List Oper} {ty:TypeId} {d:Nat} {pos:String} {af:Array Edge}
theorem OI.yieldN {l m:Nat} {x:Operand} {xs:List Operand} {ts:Array TypeId} {vs:List Value} (R LC:List Sp) {K:Bool→List Sp→Prop} (hdp:i.dp=m) (hro:i.ro=none) (hx:ev E x=some (.func (.yield l) #[] #[])) (hxs:xs.map (ev E)=vs.map some) (hL:L=R++LC)
    (hy:c.Ok→∀ W1,St c.w0 c.M L W1→St W1 (feet LC) LC W1→YieldAt (FW none) (m-1) c.P l vs.toArray W1 fun e W'=>∃ b L',e=.returned (.bool b)∧K b L'∧St W1 (feet LC) L' W') (hd:Nat.blt d c.n=true)
    (h:∀ b L',K b L'→OI c i ops rest k ((d,.bool b) :: E) (R++L')):OI c i ops (⟨some d,.call { callee:=.value x,args:=xs.toArray,argTypes:=ts },ty,pos,af,none⟩ :: rest) k E L:=fun ok a w ha hs =>
  wpListIn_plain rfl fun K' hK=>by
    subst hdp hL
    have hs1:St c.w0 c.M (LC++R) w:=hs.perm List.perm_append_comm
    obtain ⟨fn,tmps,assign,body,hrun,hround⟩:=hy ok w hs hs1.own
    have hxs':xs.map a.eval=vs:=by
      rw [←bare_eval];exact ha.bare.evs hxs
    have hexec:(execOp a.eval ⟨some d,.call { callee:=.value x,args:=xs.toArray,argTypes:=ts },ty,pos,af,none⟩).run c.P w=.ok (.round l fn tmps assign body) w:=by
      simp [execOp,resolve,Deferred.ofValue,invoke,ha.ev hx,hxs',callFunc,hrun]
    refine ⟨fun _ _=>trivial,?_⟩
    rw [Oper.semAt_eq i.ro _ _ (noDefer_of rfl),hexec,Oper.uponIn_round,hro]
    refine ⟨fun h=>(by cases h),?_⟩
    refine RoundIn.mono hround ?_
    rintro e W' ⟨b,L',rfl,hk,hst⟩
    exact hK _ _ (h b L' hk ok _ W' (ha.put _ hd) ((hs1.back hst).perm List.perm_append_comm))
theorem ItN.enter {P:Program} {gf:Nat} {fn:Func} {body:Code} {lb:List Value} {Ro:List Sp} {nx:List (List Value)→List Value→Prop} {full:List (List Value)→Prop} (n:Nat) (hf:P.funcs[gf]?=some fn) (hb:fn.body=some body) (hn:fn.ntmps=n) (hle:Nat.ble (lb.length+1) n=true) (hrs:fn.results=#[])
    (h:∀ (l m:Nat) (X Z:Type) (φ:List (List Value)→X→Prop) (LL:X→List Sp) (ψ:Z→Prop) (LX:Z→List Sp) (Rx:List Sp) (W:World) (y0:X),
      (∀ A∈Ro++Rx,A.holds W∧∀ k∈A.foot,k∉feet (LL y0)) →
      (∀ vs y x W1,φ vs y→nx vs x→(∀ A∈Ro++Rx,A.holds W1∧∀ k∈A.foot,k∉feet (LL y))→St W1 (feet (LL y)) (LL y) W1 →
        YieldAt (FW none) (m-1) P l x.toArray W1 fun e W'=>(e=.returned (.bool true)∧∃ y',φ (vs++[x]) y'∧St W1 (feet (LL y)) (LL y') W')∨(e=.returned (.bool false)∧∃ z,ψ z∧St W1 (feet (LL y)) (LX z) W')) →
      φ [] y0→∀ R0:Exit→Act→World→Prop,(∀ e a w,e=.normal∨e=.ret→a.defers=[]→((∃ vs y,full vs∧φ vs y∧St W (feet (LL y0)) (LL y) w)∨∃ z,ψ z∧St W (feet (LL y0)) (LX z) w)→R0 e a w) →
      ∃ Ro':List Sp,(∀ A∈Ro',A.holds W∧∀ k∈A.foot,k∉feet (LL y0)) ∧
        JI { P:=P,fn:=fn,n:=n,w0:=W,M:=feet (LL y0),Ro:=Ro',R:=fun _ _=>True } ⟨none,m,[],R0⟩ [.code body] (envOf 0 (.func (.yield l) #[] #[] :: lb)) (LL y0)):ItN P gf lb.toArray Ro nx full:=by
  intro l m X Z φ LL ψ LX Rx W y0 hro hy h0 hst
  have hE:(#[.func (.yield l) #[] #[]]++lb.toArray:Array Value)=(.func (.yield l) #[] #[] :: lb:List Value).toArray:=by simp
  rw [hE]
  refine callsIn_of_wp hf hb trivial ?_
  obtain ⟨Ro',hok,hj⟩:=h l m X Z φ LL ψ LX Rx W y0 hro hy h0 (bodyPost P fn fun e W'=>(∃ v,e=.returned v)∧((∃ vs y,full vs∧φ vs y∧St W (feet (LL y0)) (LL y) W')∨∃ z,ψ z∧St W (feet (LL y0)) (LX z) W')) (fun e a w he hd hJ=>by
    have hr:(results fn a.tmps).run P w=.ok (.tuple #[]) w:=by
      simp [results,hrs]
    rcases he with rfl|rfl<;>exact ⟨hd,_,hr,⟨_,rfl⟩,hJ⟩)
  rw [hn]
  exact hj hok _ W (args_has (by simpa using hle)) hst
theorem JI.rangeN {g:Operand} {ps:List Tmp} {assign body:Code} {gf:Nat} {lb:Array Value} {RoI:List Sp} {nx:List (List Value)→List Value→Prop} {full:List (List Value)→Prop} {X Z:Type} (φ:List (List Value)→X→Prop) (LL:X→List Sp) (ψ:Code→Z→Prop) (LX:Z→List Sp)
    (hro:i.ro=none) (hg:ev E g=some (.func (.func gf) #[] lb)) (eg:∀ args w,(callFunc gf args).run c.P w=.ok (.enter gf args) w) (hit:ItN c.P gf lb RoI nx full) (hps:∀ vs x,nx vs x→x.length=ps.length) (hpn:ps.all (fun p=>Nat.blt p c.n)=true)
    (x0:X) (h0:φ [] x0) (is:List Nat) (hn:is.Nodup) (hL:LK.sel L is=LL x0) (hsub:∀ A∈RoI,A∈c.Ro)
    (round:∀ (W1:World) (M1:List Nat) (l D:Nat) (rec:LoopState→Option Code→Loop) vs y x,(∀ s p,(rec s p).state=s)→(∀ s p s' p',{ rec s p with state:=s',pending:=p' }=rec s' p')→φ vs y→nx vs x →
      JI { c with w0:=W1,M:=M1 } ⟨some l,i.dp-1-1,[],fun _ _ _=>False⟩ [.code assign,.lp (BeginI { c with w0:=W1,M:=M1 } ⟨some l,i.dp-1-1,[],RE { c with w0:=W1,M:=M1 } rec l D (fun _ y=>φ (vs++[x]) y) LL ψ LX 0⟩ l body)] (envP ps x E) (LK.blk l (.loop (rec .ready none)) :: LK.blk D (.deferred (some [])) :: LL y))
    (done:∀ l D r vs y,full vs→φ vs y→JI c { i with ds:={ target:=.collected D,args:=#[] } :: i.ds } k E (LK.blk l (.loop r) :: LK.blk D (.deferred (some [])) :: LL y))
    (stop:∀ l D r x z,ψ x z→JI c { i with ds:={ target:=.collected D,args:=#[] } :: i.ds } (.code x :: k) E (LK.blk l (.loop r) :: LK.blk D (.deferred (some [])) :: LX z)) :
    JI c i (.code (.rangeFunc g ps.toArray assign body) :: k) E L:=fun ok a w ha hs=>by
  have hst:St c.w0 c.M (LL x0) w:=hL ▸ hs.sel hn
  show (Code.rangeFunc g ps.toArray assign body).wpIn (FW i.ro) i.dp c.P (QI c.P i k) a w
  refine wpIn_rangeFunc ?_
  intro fn _
  obtain ⟨rec,hrec⟩:∃ rec:LoopState→Option Code→Loop,rec=fun st pe=>loopRec fn a.tmps ps.toArray assign body w.heap.size st pe:=⟨_,rfl⟩
  have hS1:∀ s p,(rec s p).state=s:=fun s p=>by rw [hrec];rfl
  have hS2:∀ s p s' p',{ rec s p with state:=s',pending:=p' }=rec s' p':=fun s p s' p'=>by rw [hrec];rfl
  have hst1:=(hst.alloc (.deferred (some []))).alloc (.loop (rec .ready none))
  rw [World.size_alloc] at hst1
  have hent:=run_enterLoop_outer (P:=c.P) (w:=w) fn a.tmps ps.toArray assign body
  have haD:∀ D,HasD c.n ({ target:=.collected D,args:=#[] } :: i.ds) { a with defers:=[{ target:=.collected D,args:=#[] }]++a.defers } E:=fun D=>⟨ha.size,by rw [ha.defers];rfl,ha.at_⟩
  refine ⟨w.heap.size+1,[{ target:=.collected w.heap.size,args:=#[] }],(w.alloc (.deferred (some []))).alloc (.loop (rec .ready none)),{ target:=.fn (.func gf) lb,args:=#[.func (.yield (w.heap.size+1)) #[] #[]] },(w.alloc (.deferred (some []))).alloc (.loop (rec .ready none)),gf,
    #[.func (.yield (w.heap.size+1)) #[] #[]]++lb,(w.alloc (.deferred (some []))).alloc (.loop (rec .ready none)),?_,?_,fun _ _=>trivial,?_,fun h=>(by cases h),?_⟩
  · rw [hrec]
    show (Instr.enterLoop fn a.tmps ps.toArray assign body i.ro).run c.P w=_
    rw [hro]
    exact hent
  · have he:a.eval (.const (.func (.yield (w.heap.size+1)) #[] #[]))=.func (.yield (w.heap.size+1)) #[] #[]:=rfl
    simp [resolve,Deferred.ofValue,ha.ev hg,he]
  · simp [invoke,eg]
  · have hro':FW i.ro=FW none:=by rw [hro]
    have hst2:St c.w0 c.M ((LK.blk (w.heap.size+1) (.loop (rec .ready none)) :: LK.blk w.heap.size (.deferred (some [])) :: LL x0)++[]) ((w.alloc (.deferred (some []))).alloc (.loop (rec .ready none))):=by rw [List.append_nil];exact hst1
    have hc:=hit (w.heap.size+1) (i.dp-1) X (Code×Z) φ (fun y=>LK.blk (w.heap.size+1) (.loop (rec .ready none)) :: LK.blk w.heap.size (.deferred (some [])) :: LL y) (fun z=>ψ z.1 z.2) (fun z=>LK.blk (w.heap.size+1) (.loop (rec .done (some z.1))) :: LK.blk w.heap.size (.deferred (some [])) :: LX z.2) c.Ro ((w.alloc (.deferred (some []))).alloc (.loop (rec .ready none))) x0
      (fun A hA=>by
        have hA':A∈c.Ro:=by
          rcases List.mem_append.1 hA with h|h
          · exact hsub A h
          · exact h
        exact Cx.roAll ok hst1 A hA')
      (fun vs y x W1 hy hx hR hW=>by
        have hl:W1.heap[w.heap.size+1]?=some (.loop (rec .ready none)):=hW.at_ (LK.blk (w.heap.size+1) (.loop (rec .ready none))) (by simp)
        have hyl:=run_yield (P:=c.P) (args:=x.toArray) hl (by rw [hrec];simp [loopRec,hps vs x hx])
        have hst2:=round W1 (feet (LK.blk (w.heap.size+1) (.loop (rec .ready none)) :: LK.blk w.heap.size (.deferred (some [])) :: LL y)) (w.heap.size+1) w.heap.size rec vs y x hS1 hS2 hy hx (fun A hA=>hR A (List.mem_append.2 (.inr hA))) { tmps:=(ps.zip x).foldl (fun t (p,v)=>t.setIfInBounds p v) a.tmps,defers:=[] } W1 (has_params (List.all_eq_true.1 hpn) ⟨ha.size,rfl,ha.at_⟩ (hps vs x hx)) hW
        have e1:(rec .ready none).fn=fn:=by rw [hrec];rfl
        have e2:(rec .ready none).params=ps.toArray:=by rw [hrec];rfl
        have e3:(rec .ready none).assign=assign:=by rw [hrec];rfl
        have e4:(rec .ready none).body=body:=by rw [hrec];rfl
        have e5:(rec .ready none).tmps=a.tmps:=by rw [hrec];rfl
        rw [e1,e2,e3,e4,e5] at hyl
        have e6:(ps.toArray.zip x.toArray).foldl (fun t (p,v)=>t.setIfInBounds p v) a.tmps=(ps.zip x).foldl (fun t (p,v)=>t.setIfInBounds p v) a.tmps:=by simp
        rw [e6] at hyl
        have hri:RoundIn (FW none) (i.dp-1-1) c.P (w.heap.size+1) fn ((ps.zip x).foldl (fun t (p,v)=>t.setIfInBounds p v) a.tmps) assign body W1 (fun e W'=>(e=.returned (.bool true)∧JK { c with w0:=W1,M:=feet (LK.blk (w.heap.size+1) (.loop (rec .ready none)) :: LK.blk w.heap.size (.deferred (some [])) :: LL y) } rec (w.heap.size+1) w.heap.size (fun _ y=>φ (vs++[x]) y) LL (0+1) W')∨(e=.returned (.bool false)∧JX { c with w0:=W1,M:=feet (LK.blk (w.heap.size+1) (.loop (rec .ready none)) :: LK.blk w.heap.size (.deferred (some [])) :: LL y) } rec (w.heap.size+1) w.heap.size ψ LX W')):=roundIn_of_wpIn trivial hst2
        refine ⟨fn,_,assign,body,hyl,RoundIn.mono hri ?_⟩
        rintro e W' (⟨rfl,y',hy',hs'⟩|⟨rfl,x',z,hz,hs'⟩)
        · exact .inl ⟨rfl,y',hy',hs'⟩
        · exact .inr ⟨rfl,(x',z),hz,hs'⟩)
      h0 hst2.own
    rw [hro']
    refine hc.mono ?_
    rintro e W' ⟨⟨v,rfl⟩,hJ⟩
    rcases hJ with ⟨vs,y,hfull,hy,hW0⟩|⟨⟨x,z⟩,hz,hW0⟩
    · have hW:St c.w0 c.M (LK.blk (w.heap.size+1) (.loop (rec .ready none)) :: LK.blk w.heap.size (.deferred (some [])) :: LL y) W':=by
        have:=hst2.back hW0
        rwa [List.append_nil] at this
      have hl:W'.heap[w.heap.size+1]?=some (.loop (rec .ready none)):=hW.at_ (LK.blk (w.heap.size+1) (.loop (rec .ready none))) (by simp)
      have he:=run_endLoop (P:=c.P) hl (by rw [hS1];decide)
      have e1:(rec .ready none).pending=none:=by rw [hrec];rfl
      rw [e1] at he
      refine ⟨none,_,he,?_⟩
      have:=done (w.heap.size+1) w.heap.size { rec .ready none with state:=.exhausted,pending:=none } vs y hfull hy ok _ _ (haD w.heap.size) (hW.putObj (i:=0) (o':=.loop { rec .ready none with state:=.exhausted,pending:=none }) rfl)
      rw [QI_ds] at this
      exact this
    · have hW:St c.w0 c.M (LK.blk (w.heap.size+1) (.loop (rec .done (some x))) :: LK.blk w.heap.size (.deferred (some [])) :: LX z) W':=by
        have:=hst2.back hW0
        rwa [List.append_nil] at this
      have hl:W'.heap[w.heap.size+1]?=some (.loop (rec .done (some x))):=hW.at_ (LK.blk (w.heap.size+1) (.loop (rec .done (some x)))) (by simp)
      have he:=run_endLoop (P:=c.P) hl (by rw [hS1];decide)
      have e1:(rec .done (some x)).pending=some x:=by rw [hrec];rfl
      rw [e1] at he
      refine ⟨some x,_,he,?_⟩
      have:=stop (w.heap.size+1) w.heap.size { rec .done (some x) with state:=.exhausted,pending:=some x } x z hz ok _ _ (haD w.heap.size) (hW.putObj (i:=0) (o':=.loop { rec .done (some x) with state:=.exhausted,pending:=some x }) rfl)
      show x.wpIn (FW none) i.dp c.P (QI c.P i k) _ _
      have h2:x.wpIn (FW i.ro) i.dp c.P (QI c.P { i with ds:={ target:=.collected w.heap.size,args:=#[] } :: i.ds } k) { a with defers:=[{ target:=.collected w.heap.size,args:=#[] }]++a.defers } _:=this
      rw [QI_ds,hro'] at h2
      exact h2
end
end Go.LK
namespace Go.LK
open Go Go.RowKit
theorem YieldAt.weak {F:Fence} {m:Nat} {P:Program} {l:Nat} {args:Array Value} {W:World} {R R':Ending→World→Prop} (h:YieldAt F m P l args W R) (hR:∀ e w,R e w→R' e w):YieldAt F m P l args W R':=by
  obtain ⟨fn,tmps,assign,body,h1,h2⟩:=h
  exact ⟨fn,tmps,assign,body,h1,RoundIn.mono h2 hR⟩
section
variable {α:Type} {f:α→Value} {m:List (Int×α)} {arr:Array MapEntry} {clock:Nat} {seen:Array Nat} {ks:List Int} {en:MapEntry}
theorem MapI.key (h:MapI f m arr clock) (he:en∈arr.toList):∃ k v,en.key=.int .i64 k∧en.val=f v∧(k,v)∈m:=by
  have:(en.key,en.val)∈m.map (fun p=>(Value.int .i64 p.1,f p.2)):=by rw [←h.eq];exact List.mem_map.2 ⟨en,he,rfl⟩
  obtain ⟨p,hp,he2⟩:=List.mem_map.1 this
  simp only [Prod.mk.injEq] at he2
  exact ⟨p.1,p.2,he2.1.symm,he2.2.symm,hp⟩
theorem map_inj {β γ:Type} {g:β→γ}:∀ {l:List β},(l.map g).Nodup→∀ {a b:β},a∈l→b∈l→g a=g b→a=b
  | x :: l,h,a,b,ha,hb,e=>by
    have h':=List.nodup_cons.1 h
    rcases List.mem_cons.1 ha with h1|h1<;>rcases List.mem_cons.1 hb with h2|h2
    · rw [h1,h2]
    · exact absurd (List.mem_map.2 ⟨b,h2,by rw [←e,h1]⟩) h'.1
    · exact absurd (List.mem_map.2 ⟨a,h1,by rw [e,h2]⟩) h'.1
    · exact map_inj h'.2 h1 h2 e
theorem MapI.one (h:MapI f m arr clock) {a b:MapEntry} (ha:a∈arr.toList) (hb:b∈arr.toList) (hk:a.key=b.key):a=b:=by
  have hn:(arr.toList.map (·.key)).Nodup:=by
    have:arr.toList.map (·.key)=(keysI m).map (Value.int .i64):=by
      have:=congrArg (List.map Prod.fst) h.eq
      simpa [List.map_map,Function.comp_def,keysI] using this
    rw [this]
    exact List.Pairwise.map _ (fun a b hab e=>hab (by simpa using e)) h.keys
  exact map_inj hn ha hb hk
structure Walk (m:List (Int×α)) (arr:Array MapEntry) (seen:Array Nat) (ks:List Int):Prop where
  nd:ks.Nodup
  iff:∀ en∈arr.toList,∀ k,en.key=.int .i64 k→(seen.contains en.born=true↔k∈ks)
  sub:∀ k∈ks,k∈keysI m
theorem Walk.nil:Walk m arr #[] []:=⟨by simp,fun en _ k _=>by simp,by simp⟩
theorem Walk.next (hM:MapI f m arr clock) (h:Walk m arr seen ks) (hen:en∈(leftOf arr seen).toList):∃ k v,en.key=.int .i64 k∧en.val=f v∧(k,v)∈m∧k∉ks∧Walk m arr (seen.push en.born) (ks++[k]):=by
  obtain ⟨he,hs⟩:=mem_left hen
  obtain ⟨k,v,hk,hv,hkv⟩:=hM.key he
  have hkn:k∉ks:=fun hin=>by
    have:=(h.iff en he k hk).2 hin
    rw [hs] at this;cases this
  refine ⟨k,v,hk,hv,hkv,hkn,List.nodup_append.2 ⟨h.nd,by simp,fun a ha b hb=>by simp at hb;subst hb;exact fun e=>hkn (e ▸ ha)⟩,fun en' he' k' hk'=>?_,fun k' hk'=>?_⟩
  · rw [contains_push,List.mem_append,List.mem_singleton,Bool.or_eq_true,h.iff en' he' k' hk',beq_iff_eq]
    constructor
    · rintro (h1|h1)
      · exact .inl h1
      · have:en'=en:=born_inj hM.born he' he h1
        subst this
        rw [hk] at hk';cases hk'
        exact .inr rfl
    · rintro (h1|h1)
      · exact .inl h1
      · subst h1
        have:en'=en:=hM.one he' he (by rw [hk',hk])
        subst this
        exact .inr rfl
  · rcases List.mem_append.1 hk' with h1|h1
    · exact h.sub k' h1
    · simp at h1;subst h1
      exact List.mem_map.2 ⟨_,hkv,rfl⟩
theorem Walk.full (hM:MapI f m arr clock) (h:Walk m arr seen ks) (h0:(leftOf arr seen).size=0):ks.Perm (keysI m):=by
  refine (List.perm_ext_iff_of_nodup h.nd hM.keys).2 fun k=>⟨h.sub k,fun hk=>?_⟩
  obtain ⟨p,hp,rfl⟩:=List.mem_map.1 hk
  have:(Value.int .i64 p.1,f p.2)∈arr.toList.map (fun e=>(e.key,e.val)):=by rw [hM.eq];exact List.mem_map.2 ⟨p,hp,rfl⟩
  obtain ⟨en,he,hee⟩:=List.mem_map.1 this
  simp only [Prod.mk.injEq] at hee
  exact (h.iff en he p.1 hee.1).1 (all_seen arr seen h0 en he)
def kyNx (m:List (Int×α)) (vs:List (List Value)) (x:List Value):Prop:=∃ k,k∈keysI m∧x=[.int .i64 k]∧x∉vs
def kyFull (m:List (Int×α)) (vs:List (List Value)):Prop:=∃ ks:List Int,vs=ks.map (fun k=>[Value.int .i64 k])∧ks.Perm (keysI m)
theorem ky_not {ks:List Int} {k:Int} (h:k∉ks):[Value.int .i64 k]∉ks.map (fun k=>[Value.int .i64 k]):=fun hm=>by
  obtain ⟨j,hj,he⟩:=List.mem_map.1 hm
  simp at he;subst he;exact h hj
theorem ky_app {ks:List Int} {k:Int}:(ks++[k]).map (fun k=>[Value.int .i64 k])=ks.map (fun k=>[Value.int .i64 k])++[[Value.int .i64 k]]:=by simp
end
theorem sel_range:∀ (L:List Sp),LK.sel L (List.range L.length)=L
  | []=>rfl
  | A :: L=>by
    have ih:=sel_range L
    unfold LK.sel at ih ⊢
    rw [List.length_cons,List.range_succ_eq_map,List.filterMap_cons,List.filterMap_map]
    simp only [List.getElem?_cons_zero,Function.comp_def,List.getElem?_cons_succ]
    rw [ih]
theorem sel_all {A:Sp} (L:List Sp):LK.sel (A :: L) (List.range L.length.succ)=A :: L:=sel_range (A :: L)
end Go.LK
namespace Go.LK
open Go Go.RowKit
section
variable {c:Cx} {E:Env} {ty T:TypeId} {x:Operand}
theorem Pu.mapNil {k e:TypeId} (hT:c.P.underlying T=some (.map k e)) (hx:ev E x=some (.map none)):Pu c E (.binOp .eql T x (.const (.map none)) T) ty (.bool true):=fun a w h _ _ _ _=>by
  have h3:∀ d,(Op.equalIn (d+1) T (.map none) (.map none)).run c.P w=.ok true w:=fun d=>by simp [Op.equalIn,run_underlying hT]
  have h4:(binOp .eql T (.map none) (.map none)).run c.P w=.ok (.bool true) w:=by
    simp only [binOp]
    simp [Op.equal,Op.maxDepth,h3 9999]
  have h5:eqGuard .eql T x (.const (.map none)) (.map none) (.map none)=pure ():=by cases x<;>rfl
  have h2:a.eval (.const (.map none))=.map none:=rfl
  simp only [execOp,h.ev hx,h2,h5]
  simp [h4]
theorem Pu.mapSome {k e:TypeId} {b:Nat} (hT:c.P.underlying T=some (.map k e)) (hx:ev E x=some (.map (some b))):Pu c E (.binOp .eql T x (.const (.map none)) T) ty (.bool false):=fun a w h _ _ _ _=>by
  have h3:∀ d,(Op.equalIn (d+1) T (.map (some b)) (.map none)).run c.P w=.ok false w:=fun d=>by simp [Op.equalIn,run_underlying hT]
  have h4:(binOp .eql T (.map (some b)) (.map none)).run c.P w=.ok (.bool false) w:=by
    simp only [binOp]
    simp [Op.equal,Op.maxDepth,h3 9999]
  have h5:eqGuard .eql T x (.const (.map none)) (.map (some b)) (.map none)=pure ():=by cases x<;>rfl
  have h2:a.eval (.const (.map none))=.map none:=rfl
  simp only [execOp,h.ev hx,h2,h5]
  simp [h4]
theorem Pu.ptrNe {e:TypeId} {ad:Addr} (hT:c.P.underlying T=some (.pointer e)) (hx:ev E x=some (.pointer (some ad))):Pu c E (.binOp .neq T x (.const (.pointer none)) T) ty (.bool true):=fun a w h _ _ _ _=>by
  have h3:∀ d,(Op.equalIn (d+1) T (.pointer (some ad)) (.pointer none)).run c.P w=.ok false w:=fun d=>by simp [Op.equalIn,run_underlying hT]
  have h4:(binOp .neq T (.pointer (some ad)) (.pointer none)).run c.P w=.ok (.bool true) w:=by
    simp only [binOp]
    simp [Op.equal,Op.maxDepth,h3 9999]
  have h5:eqGuard .neq T x (.const (.pointer none)) (.pointer (some ad)) (.pointer none)=pure ():=by cases x<;>rfl
  have h2:a.eval (.const (.pointer none))=.pointer none:=rfl
  simp only [execOp,h.ev hx,h2,h5]
  simp [h4]
theorem Pu.ptrNeNil {e:TypeId} (hT:c.P.underlying T=some (.pointer e)) (hx:ev E x=some (.pointer none)):Pu c E (.binOp .neq T x (.const (.pointer none)) T) ty (.bool false):=fun a w h _ _ _ _=>by
  have h3:∀ d,(Op.equalIn (d+1) T (.pointer none) (.pointer none)).run c.P w=.ok true w:=fun d=>by simp [Op.equalIn,run_underlying hT]
  have h4:(binOp .neq T (.pointer none) (.pointer none)).run c.P w=.ok (.bool false) w:=by
    simp only [binOp]
    simp [Op.equal,Op.maxDepth,h3 9999]
  have h5:eqGuard .neq T x (.const (.pointer none)) (.pointer none) (.pointer none)=pure ():=by cases x<;>rfl
  have h2:a.eval (.const (.pointer none))=.pointer none:=rfl
  simp only [execOp,h.ev hx,h2,h5]
  simp [h4]
end
theorem JI.nilRow {c:Cx} {i:Ci} {k:List It} {E:Env} {L:List Sp} (t:TypeId) (s:Nat) (h:JI c i k E (row (.slice none 0 0) t s [] :: L)):JI c i k E L:=fun ok a w ha hs =>
  h ok a w ha (hs.add (Frame.refl w _) ⟨World.ownsRow_nil w 0 t s,by simp⟩ (by simp [row,Value.ownBlock]))
theorem OI.one {c:Cx} {i:Ci} {k:List It} {E:Env} {L:List Sp} {ops:Array Oper} {rest:List Oper} {V:Value} {sz:Nat} {els:List (List Value)} (hs:Src c L V sz els) (h:V.oneCell'=true→OI c i ops rest k E L):OI c i ops rest k E L:=fun ok a w ha hst =>
  h (elt_one (hs ok w hst)) ok a w ha hst
theorem mi_miV {α:Type} {b:Nat} {f:α→Value} {m:List (Int×α)}:∀ w,(mi b f m).holds w→(miV (.map (some b)) f m).holds w∧∀ k∈(miV (.map (some b)) f m).foot,k∈(mi b f m).foot:=fun _ h=>⟨.inr ⟨b,rfl,h⟩,fun _ hk=>hk⟩
theorem miV_nil {α:Type} {f:α→Value} {w:World}:(miV (.map none) f []).holds w:=Or.inl ⟨rfl,rfl⟩
theorem miV_foot {α:Type} {f:α→Value} {k:Nat} (h:k∈(miV (.map none) f []).foot):False:=by
  have h2:k∈([]:List Nat):=h
  cases h2
theorem RoOk.nilM {c:Cx} {L LC RoC:List Sp} {α:Type} {f:α→Value} (h:RoOk c L LC RoC):RoOk c L LC (miV (.map none) f [] :: RoC):=fun ok w hs A hA=>by
  rcases List.mem_cons.1 hA with rfl|hA
  · exact ⟨miV_nil,fun k hk=>(miV_foot hk).elim⟩
  · exact h ok w hs A hA
theorem ky_inj:∀ {a b:List Int},a.map (fun k=>[Value.int .i64 k])=b.map (fun k=>[Value.int .i64 k])→a=b
  | [],[],_=>rfl
  | [],_ :: _,h=>by simp at h
  | _ :: _,[],h=>by simp at h
  | x :: a,y :: b,h=>by
    rw [List.map_cons,List.map_cons,List.cons.injEq] at h
    obtain ⟨h1,h2⟩:=h
    have:x=y:=by simpa using h1
    rw [this,ky_inj h2]
theorem kyFull_of {α:Type} {m:List (Int×α)} {ks:List Int} {vs:List (List Value)} (h:kyFull m vs) (hv:vs=ks.map fun k=>[Value.int .i64 k]):ks.Perm (keysI m):=by
  obtain ⟨ks',h1,h2⟩:=h
  rw [←ky_inj (h1.symm.trans hv)];exact h2
theorem nodup_len:∀ {ks l:List Int},ks.Nodup→(∀ k∈ks,k∈l)→ks.length≤l.length
  | [],_,_,_=>by simp
  | k :: ks,l,hn,hs=>by
    have hn':=List.nodup_cons.1 hn
    have hk:k∈l:=hs k (by simp)
    have ih:=nodup_len (ks:=ks) (l:=l.erase k) hn'.2 fun x hx=>(List.mem_erase_of_ne (fun e=>hn'.1 (by rw [←e];exact hx))).2 (hs x (by simp [hx]))
    rw [List.length_erase_of_mem hk] at ih
    have:=List.length_pos_of_mem hk
    simp only [List.length_cons];omega
def KMet {α:Type} (m:List (Int×α)) (vs:List (List Value)) (ks:List Int):Prop:=vs=ks.map (fun k=>[Value.int .i64 k])∧ks.Nodup∧∀ k∈ks,k∈keysI m
theorem KMet.nil {α:Type} {m:List (Int×α)}:KMet m [] []:=⟨rfl,by simp,by simp⟩
theorem KMet.next {α:Type} {m:List (Int×α)} {vs:List (List Value)} {ks:List Int} {k:Int} (h:KMet m vs ks) (hk:k∈keysI m) (hn:[Value.int .i64 k]∉vs):KMet m (vs++[[Value.int .i64 k]]) (ks++[k]):=by
  obtain ⟨h1,h2,h3⟩:=h
  have hkn:k∉ks:=fun hi=>hn (by rw [h1];exact List.mem_map.2 ⟨k,hi,rfl⟩)
  refine ⟨by rw [ky_app,h1],List.nodup_append.2 ⟨h2,by simp,fun a ha b hb=>by simp at hb;subst hb;exact fun e=>hkn (e ▸ ha)⟩,fun x hx=>?_⟩
  rcases List.mem_append.1 hx with hx|hx
  · exact h3 x hx
  · simp at hx;subst hx;exact hk
theorem KMet.len {α:Type} {m:List (Int×α)} {vs:List (List Value)} {ks:List Int} (h:KMet m vs ks):ks.length≤m.length:=by
  have:=nodup_len h.2.1 h.2.2
  simpa [keysI] using this
theorem Frame.more {w w':World} {M M':List Nat} (h:Frame w M w') (hs:∀ k∈M,k∈M'):Frame w M' w':=⟨h.os,h.tape,h.output,h.size,fun k hk hn=>h.old k hk fun hm=>hn (hs k hm)⟩
theorem Re.footSub {L L1:List Sp} (h:Re L L1) {w:World} (hs:St w (feet L) L w):∀ k∈LK.feet L1,k∈LK.feet L:=fun k hk=>by
  have h1:=h w _ w hs
  rcases h1.mine k hk with h2|h2
  · have:=h1.lt k hk;omega
  · exact h2
theorem Tri.conv {P:Program} {f:FuncId} {args:Array Value} {Ro L L1:List Sp} {post1 post:Value→List Sp→Prop} (h:Tri P f args Ro L1 post1) (h1:Re L L1) (h2:∀ v L',post1 v L'→∃ L2,post v L2∧Re L' L2):Tri P f args Ro L post:=fun w hro hst=>by
  have hs1:=h1 w _ w hst
  have hft:=h1.footSub hst
  have hown:St w (feet L1) L1 w:=⟨Frame.refl w _,hs1.at_,hs1.nd,fun k hk=>.inr hk⟩
  refine (h w (fun A hA=>⟨(hro A hA).1,fun k hk hk'=>(hro A hA).2 k hk (hft k hk')⟩) hown).mono ?_
  rintro e w' ⟨v,L',rfl,hp,hs'⟩
  obtain ⟨L2,hp2,hr⟩:=h2 v L' hp
  refine ⟨v,L2,rfl,hp2,hr w _ w' ⟨hs'.fr.more hft,hs'.at_,hs'.nd,fun k hk=>?_⟩⟩
  rcases hs'.mine k hk with h3|h3
  · exact .inl h3
  · exact .inr (hft k h3)
theorem Re.imp {A B:Sp} {L:List Sp} (h:∀ w,A.holds w→B.holds w) (hf:B.foot=A.foot):Re (A :: L) (B :: L):=fun w0 M w hs=>by
  have hfe:feet (B :: L)=feet (A :: L):=by rw [feet_cons,feet_cons,hf]
  refine ⟨hs.fr,fun C hC=>?_,?_,fun k hk=>hs.mine k (hfe ▸ hk)⟩
  · rcases List.mem_cons.1 hC with rfl|hC
    · exact h w (hs.at_ A (by simp))
    · exact hs.at_ C (by simp [hC])
  · have:=List.pairwise_cons.1 hs.nd
    refine List.pairwise_cons.2 ⟨fun C hC k hk=>this.1 C hC k (hf ▸ hk),this.2⟩
theorem Re.bunIn {As L:List Sp}:Re (As++L) (bun As :: L):=fun _ _ _ hs=>St.bun_iff.2 hs
theorem Re.bunOut1 {As:List Sp}:Re [bun As] As:=fun _ _ _ hs=>by have:=St.bun_iff.1 hs;simpa using this
theorem Re.bunIn1 {As:List Sp}:Re As [bun As]:=fun _ _ _ hs=>St.bun_iff.2 (by simpa using hs)
theorem bun_at {A:Sp} {As:List Sp} (hA:A∈As):∀ w,(bun As).holds w→A.holds w∧∀ k∈A.foot,k∈(bun As).foot:=fun _ h=>⟨h.1 A hA,fun _ hk=>mem_feet.2 ⟨A,hA,hk⟩⟩
section
variable {P:Program} {f:FuncId} {args:Array Value} {Ro Ro1 L:List Sp} {post post1:Value→List Sp→Prop}
theorem Tri.weak (h:Tri P f args Ro L post1) (hp:∀ v L',post1 v L'→post v L'):Tri P f args Ro L post:=fun w hro hst=>(h w hro hst).mono fun _ _ ⟨v,L',he,hp1,hs⟩=>⟨v,L',he,hp v L' hp1,hs⟩
theorem Tri.roFrom (h:Tri P f args Ro1 L post) (h1:∀ A1∈Ro1,∃ A∈Ro,∀ w,A.holds w→A1.holds w∧∀ k∈A1.foot,k∈A.foot):Tri P f args Ro L post:=fun w hro hst=>h w (fun A1 hA1=>by
  obtain ⟨A,hA,hAA⟩:=h1 A1 hA1
  obtain ⟨h2,h3⟩:=hAA w (hro A hA).1
  exact ⟨h2,fun k hk=>(hro A hA).2 k (h3 k hk)⟩) hst
theorem Tri.readOwn (h:Tri P f args Ro1 [] post1) (h1:∀ A1∈Ro1,∃ A∈L,∀ w,A.holds w→A1.holds w∧∀ k∈A1.foot,k∈A.foot) (h2:∀ v L1,post1 v L1→post v (L1++L)):Tri P f args Ro L post:=fun w _ hst=>by
  have hst':St w (feet L) ([]++L) w:=hst
  refine (h w (fun A1 hA1=>?_) hst'.own).mono ?_
  · obtain ⟨A,hA,hAA⟩:=h1 A1 hA1
    exact ⟨(hAA w (hst.at_ A hA)).1,fun k _ hk'=>by simp [feet] at hk'⟩
  · rintro e w' ⟨v,L1,rfl,hp,hs⟩
    exact ⟨v,L1++L,rfl,h2 v L1 hp,hst'.back hs⟩
end
end Go.LK
namespace Go.LK
open Go Go.RowKit
section
variable {P:Program} {ro:Option Nat} {m:Nat} {ds:List Deferred} {Q0 Q:Exit→Act→World→Prop} {ops:Array Oper}
end
section
variable {c:Cx} {i:Ci} {k:List It} {E:Env} {L:List Sp} {ops:Array Oper}
end
end Go.LK
namespace Go.LK
open Go Go.RowKit
def EqR (P:Program) (d:Nat) (t:TypeId) (x y:Value) (b:Bool):Prop:=∀ w,(Op.equalIn d t x y).run P w=.ok b w
inductive EqFs (P:Program) (d:Nat) (xs ys:Array Value):List Field→Bool→Prop
  | nil:EqFs P d xs ys [] true
  | cons {f : Field} {fs : List Field} {x y : Value} {b1 b2 : Bool} (hn : (f.name == "_") = false) (hx : ∀ w, (part f.type xs f.offset).run P w = .ok x w) (hy : ∀ w, (part f.type ys f.offset).run P w = .ok y w) (h : EqR P d f.type x y b1) (hs : EqFs P d xs ys fs b2) : EqFs P d xs ys (f :: fs) (b1 && b2)
section
variable {P:Program} {d:Nat} {t:TypeId} {xs ys:Array Value} {v:Value}
theorem EqR.int {a b:Int} (hu:P.underlying t=some (.int .i64)):EqR P (d+1) t (.int .i64 a) (.int .i64 b) (decide (a=b)):=fun w=>by rw [run_equalIn_int w d t .i64 .i64 a b hu];rfl
theorem EqR.bool {a b:Bool} (hu:P.underlying t=some .bool):EqR P (d+1) t (.bool a) (.bool b) (a == b):=fun w=>run_equalIn_bool w d t a b hu
theorem EqFs.run {fs:List Field} {b:Bool} (h:EqFs P d xs ys fs b) (w:World):(Op.eqFields d xs ys fs).run P w=.ok b w:=by
  induction h with
  | nil=>rfl
  | cons hn hx hy h hs ih =>
    rename_i f fs x y b1 b2
    have hn' : ¬ f.name = "_" := by simpa using hn
    simp only [Op.eqFields,if_pos hn',Sem.run_bind,hx,hy,Result.andThen_ok,h w]
    cases b1
    · simp
    · simpa using ih
theorem EqR.struct {fs:Array Field} {b:Bool} (hT:P.underlying t=some (.struct fs)) (hp:P.stoodInHeld t=false) (h:EqFs P d xs ys fs.toList b):EqR P (d+1) t (.agg xs) (.agg ys) b:=fun w=>by
  have h1:P.fieldsOf t=fs:=by simp [Program.fieldsOf,hT]
  rw [run_equalIn_struct w d t _ _ (by rw [h1];exact hT) hp,h1]
  exact h.run w
theorem partOne {off:Nat} (hag:∀ w,(isAgg t).run P w=.ok false w) (h:xs[off]?=some v):∀ w,(part t xs off).run P w=.ok v w:=fun w=>by simp [part,hag,h]
theorem partAgg {off n:Nat} {l:List Value} (hag:∀ w,(isAgg t).run P w=.ok true w) (hz:∀ w,(sizeOf t).run P w=.ok n w) (h:xs.extract off (off+n)=l.toArray):∀ w,(part t xs off).run P w=.ok (.agg l.toArray) w:=fun w=>by simp [part,hag,hz,h]
end
section
variable {c:Cx} {E:Env} {ty:TypeId} {x y:Operand} {T:TypeId} {xs ys:Array Value} {b:Bool}
theorem Pu.eqlG (hg:c.P.eqGuardType c.P.depth T=false) (h:EqR c.P 10000 T (.agg xs) (.agg ys) b) (hx:ev E x=some (.agg xs)) (hy:ev E y=some (.agg ys)):Pu c E (.binOp .eql T x y T) ty (.bool b):=fun a w ha _ _ _ _=>by
  simp only [execOp,ha.ev hx,ha.ev hy,Sem.run_bind,run_eqGuard_agg w .eql T x y _ _ hg,Result.andThen_ok,run_eql_struct,h w,Sem.run_pure]
theorem Pu.neqG (hg:c.P.eqGuardType c.P.depth T=false) (h:EqR c.P 10000 T (.agg xs) (.agg ys) b) (hx:ev E x=some (.agg xs)) (hy:ev E y=some (.agg ys)):Pu c E (.binOp .neq T x y T) ty (.bool !b):=fun a w ha _ _ _ _=>by
  simp only [execOp,ha.ev hx,ha.ev hy,Sem.run_bind,run_eqGuard_agg w .neq T x y _ _ hg,Result.andThen_ok,run_neq_struct,h w,Sem.run_pure]
end
end Go.LK
namespace Go.LK
open Go
structure Kw where
  to:Int
  thr:Int
  ep:Int
  at_:Int
def Kw.cells (k:Kw):List Value:=[.int .i64 k.to,.int .i64 k.thr,.int .i64 k.ep,.int .i64 k.at_]
structure Svc where
  w:Int
  q:Int
  n:Int
  t:Int
  s:Int
  ttl:Int
  k0:Int
  k1:Int
  k2:Int
  k3:Int
  k4:Int
  k5:Int
  k6:Int
  cv:Value
  ok:cv.oneCell'=true
end Go.LK
namespace Go.LK.Sh
open Go Go.LK
def zeroK:Kw:=⟨0,0,0,0⟩
def kw:Option Kw→Kw
  | none=>zeroK
  | some k=>k
abbrev Ts:=Nat→Option Kw
def keep (n most:Int):Int:=if 0 > (if most < n then most else n) then 0 else (if most < n then most else n)
theorem keep_bnd (n:Int) {most:Int} (h:0≤most):0≤keep n most∧keep n most≤most:=by
  unfold keep;split<;>split<;>omega
def tick (n:Int):Int:=keep n 1099511627776
theorem tick_bnd (n:Int):0≤tick n∧tick n≤1099511627776:=keep_bnd n (by decide)
def left (a b:Int):Int:=tick (tick a-tick b)
def has (to:Int):Bool:=decide (0≤to)&&decide (to < 8)
theorem has_iff {to:Int}:has to=true↔0≤to∧to < 8:=by simp [has]
def newK (o:Option Kw) (to thr ep now:Int):Kw:=match o with
  | none=>⟨to,thr,ep,tick now⟩
  | some k=>if k.ep < ep then ⟨to,thr,ep,tick now⟩ else ⟨k.to,k.thr,k.ep,tick now⟩
def late (o:Option Kw) (ep:Int):Bool:=match o with
  | none=>false
  | some k=>decide (ep < k.ep)
def upd (d:Ts) (to:Int) (k:Kw):Ts:=fun j=>if (j:Int)=to then some k else d j
def lrn (d:Ts) (to thr ep now:Int):Ts×Bool:=if has to=true∧late (d to.toNat) ep=false then (upd d to (newK (d to.toNat) to thr ep now),true) else (d,false)
def get (d:Ts) (ttl to now:Int):Kw×Bool:=if has to=true then (match d to.toNat with
  | some k=>if left now k.at_≤ttl then (k,true) else (zeroK,false)
  | none=>(zeroK,false)) else (zeroK,false)
def nil:Ts:=fun _=>none
def tbC (ttl:Int) (d:Ts):List Value:=[.bool true,.int .i64 ttl,
  .bool (d 0).isSome,.int .i64 (kw (d 0)).to,.int .i64 (kw (d 0)).thr,.int .i64 (kw (d 0)).ep,.int .i64 (kw (d 0)).at_,
  .bool (d 1).isSome,.int .i64 (kw (d 1)).to,.int .i64 (kw (d 1)).thr,.int .i64 (kw (d 1)).ep,.int .i64 (kw (d 1)).at_,
  .bool (d 2).isSome,.int .i64 (kw (d 2)).to,.int .i64 (kw (d 2)).thr,.int .i64 (kw (d 2)).ep,.int .i64 (kw (d 2)).at_,
  .bool (d 3).isSome,.int .i64 (kw (d 3)).to,.int .i64 (kw (d 3)).thr,.int .i64 (kw (d 3)).ep,.int .i64 (kw (d 3)).at_,
  .bool (d 4).isSome,.int .i64 (kw (d 4)).to,.int .i64 (kw (d 4)).thr,.int .i64 (kw (d 4)).ep,.int .i64 (kw (d 4)).at_,
  .bool (d 5).isSome,.int .i64 (kw (d 5)).to,.int .i64 (kw (d 5)).thr,.int .i64 (kw (d 5)).ep,.int .i64 (kw (d 5)).at_,
  .bool (d 6).isSome,.int .i64 (kw (d 6)).to,.int .i64 (kw (d 6)).thr,.int .i64 (kw (d 6)).ep,.int .i64 (kw (d 6)).at_,
  .bool (d 7).isSome,.int .i64 (kw (d 7)).to,.int .i64 (kw (d 7)).thr,.int .i64 (kw (d 7)).ep,.int .i64 (kw (d 7)).at_]
def tkC (o:Option Kw):List Value:=[.bool o.isSome,.int .i64 (kw o).to,.int .i64 (kw o).thr,.int .i64 (kw o).ep,.int .i64 (kw o).at_]
section
variable {d:Ts} {to thr ep now ttl:Int} {k:Kw} {j i n m off:Nat} {l:List Kw} {v:Value}
theorem eight (h:0≤to∧to < 8):to=0∨to=1∨to=2∨to=3∨to=4∨to=5∨to=6∨to=7:=by omega
theorem five (h:i < 5):i=0∨i=1∨i=2∨i=3∨i=4:=by omega
theorem tb_one (h:0≤to∧to < 8) (ho:off=2+to.toNat*5+i) (hv:(tkC (d to.toNat))[i]?=some v):(tbC ttl d)[off]?=some v:=by
  have hi:i < 5:=(List.getElem?_eq_some_iff.1 hv).1
  subst ho
  rw [←hv]
  rcases eight h with h|h|h|h|h|h|h|h<;>subst h<;>rcases five hi with hi|hi|hi|hi|hi<;>subst hi<;>rfl
theorem tb_all (h:0≤to∧to < 8) (ho:off=2+to.toNat*5):((tbC ttl d).drop off).take 5=tkC (d to.toNat):=by
  subst ho
  rcases eight h with h|h|h|h|h|h|h|h<;>subst h<;>rfl
theorem tb_kw (h:0≤to∧to < 8) (ho:off=2+to.toNat*5+1):((tbC ttl d).drop off).take 4=Kw.cells (kw (d to.toNat)):=by
  subst ho
  rcases eight h with h|h|h|h|h|h|h|h<;>subst h<;>rfl
theorem tb_fit (h:0≤to∧to < 8) (ho:off=2+to.toNat*5+i) (hn:i+n≤5):Nat.ble (off+n) (tbC ttl d).length=true:=by
  have:(tbC ttl d).length=42:=rfl
  rw [Nat.ble_eq,this];omega
theorem tb_set5 (h:0≤to∧to < 8) (ho:off=2+to.toNat*5):(tbC ttl d).take off++tkC (some k)++(tbC ttl d).drop (off+(tkC (some k)).length)=tbC ttl (upd d to k):=by
  subst ho
  rcases eight h with h|h|h|h|h|h|h|h<;>subst h<;>rfl
def atK (d:Ts) (to n:Int):Kw:={ kw (d to.toNat) with at_:=n }
theorem tb_set1 (h:0≤to∧to < 8) (ho:off=2+to.toNat*5+4) (hs:(d to.toNat).isSome=true) (n:Int):(tbC ttl d).take off++[.int .i64 n]++(tbC ttl d).drop (off+[Value.int .i64 n].length)=tbC ttl (upd d to (atK d to n)):=by
  subst ho
  obtain ⟨k,hk⟩:=Option.isSome_iff_exists.1 hs
  have e1:(upd d to (atK d to n)) to.toNat=some (atK d to n):=if_pos (by omega)
  rcases eight h with h|h|h|h|h|h|h|h<;>subst h<;>simp [tbC,upd,atK,kw] at hk ⊢<;>simp [hk]
theorem upd_self (h:0≤to) {x:Kw}:upd d to x to.toNat=some x:=if_pos (by omega)
theorem upd_upd {x y:Kw}:upd (upd d to x) to y=upd d to y:=by
  funext j;unfold upd;split<;>rfl
theorem lrn_out (h:has to=false):lrn d to thr ep now=(d,false):=if_neg (by simp [h])
theorem lrn_late (hd:d to.toNat=some k) (h:ep < k.ep):lrn d to thr ep now=(d,false):=if_neg (by simp [hd,late,h])
theorem lrn_new (hh:has to=true) (hd:d to.toNat=none):lrn d to thr ep now=(upd d to ⟨to,thr,ep,tick now⟩,true):=by
  unfold lrn;rw [if_pos ⟨hh,by rw [hd];rfl⟩,hd];rfl
theorem lrn_more (hh:has to=true) (hd:d to.toNat=some k) (h:k.ep < ep):lrn d to thr ep now=(upd d to ⟨to,thr,ep,tick now⟩,true):=by
  unfold lrn;rw [if_pos ⟨hh,by rw [hd];exact decide_eq_false (by omega)⟩,hd];simp [newK,h]
theorem lrn_same (hh:has to=true) (hd:d to.toNat=some k) (h:k.ep=ep):lrn d to thr ep now=(upd d to ⟨k.to,k.thr,k.ep,tick now⟩,true):=by
  unfold lrn;rw [if_pos ⟨hh,by rw [hd];exact decide_eq_false (by omega)⟩,hd];simp [newK,show ¬k.ep < ep from by omega]
theorem get_out (h:has to=false):get d ttl to now=(zeroK,false):=if_neg (by simp [h])
theorem get_none (hd:d to.toNat=none):get d ttl to now=(zeroK,false):=by unfold get;rw [hd];simp
theorem get_old (hd:d to.toNat=some k) (h:¬left now k.at_≤ttl):get d ttl to now=(zeroK,false):=by unfold get;rw [hd];simp [h]
theorem get_yes (hh:has to=true) (hd:d to.toNat=some k) (h:left now k.at_≤ttl):get d ttl to now=(k,true):=by unfold get;rw [if_pos hh,hd];simp [h]
def Inv (d:Ts):Prop:=∀ (j:Nat) (k:Kw),j < 8→d j=some k→k.to=(j:Int)
theorem Inv.lrn (h:Inv d):Inv (lrn d to thr ep now).1:=by
  unfold Sh.lrn
  split
  · rename_i hc
    intro j k hj hk
    have hk2:(if (j:Int)=to then some (newK (d to.toNat) to thr ep now) else d j)=some k:=hk
    split at hk2
    · rename_i hjt
      cases hk2
      unfold newK
      cases hd:d to.toNat with
      | none=>exact hjt.symm
      | some q =>
        simp only
        split
        · exact hjt.symm
        · exact (h _ q (by omega) hd).trans (by omega)
    · exact h j k hj hk2
  · exact h
def rowN (d:Ts) (n:Nat):List Kw:=(List.range n).filterMap d
def row (d:Ts):List Kw:=rowN d 8
end
section
variable {s to ttl now id n lv:Int} {l f:List Ev} {k a b:Nat} {e v:Ev} {d:Ts}
def bad (ttl:Int):Bool:=decide (ttl < 0) || decide (1099511627776 < ttl)
def passes (n t:Int):Bool:=decide (0≤n)&&decide (n < t)
def inS (sv:List Svc) (v:Ev):Prop:=¬(v.s < 0∨(sv.length:Int)≤v.s∨v.a < 0∨(sv.length:Int)≤v.a)
instance {sv:List Svc} {v:Ev}:Decidable (inS sv v):=by unfold inS;infer_instance
end
end Go.LK.Sh
namespace Go.LK
open Go Go.RowKit
class Fo (P:Program) where
  f:Nat→Nat→Option Nat
  ok:∀ T i o,f T i=some o→∃ fs fd s,(∀ w,(underlying T).run P w=.ok (.struct fs) w)∧fs[i]?=some fd∧(∀ w,(sizeOf fd.type).run P w=.ok s w)∧Nat.blt 0 s=true∧fd.offset=o
def FA (P:Program) (T i o:Nat):Prop:=∃ fs fd s,(∀ w,(underlying T).run P w=.ok (.struct fs) w)∧fs[i]?=some fd∧(∀ w,(sizeOf fd.type).run P w=.ok s w)∧Nat.blt 0 s=true∧fd.offset=o
def fofL:List (Nat×Nat×Nat)→Nat→Nat→Option Nat
  | [],_,_=>none
  | (T,i,o) :: l,U,j=>bif Nat.beq T U&&Nat.beq i j then some o else fofL l U j
theorem fofL_ok {P:Program}:∀ {l:List (Nat×Nat×Nat)},(∀ e∈l,FA P e.1 e.2.1 e.2.2)→∀ {T i o:Nat},fofL l T i=some o→FA P T i o
  | [],_,_,_,_,h=>by cases h
  | (T,i,o) :: l,ha,U,j,q,h=>by
    unfold fofL at h
    cases hb:(Nat.beq T U&&Nat.beq i j) with
    | true =>
      rw [hb] at h
      cases h
      simp only [Bool.and_eq_true] at hb
      obtain rfl:=Nat.eq_of_beq_eq_true hb.1
      obtain rfl:=Nat.eq_of_beq_eq_true hb.2
      exact ha _ (List.mem_cons_self ..)
    | false =>
      rw [hb] at h
      exact fofL_ok (fun e he=>ha e (List.mem_cons_of_mem _ he)) h
@[reducible] def Fo.ofList {P:Program} (l:List (Nat×Nat×Nat)) (h:∀ e∈l,FA P e.1 e.2.1 e.2.2):Fo P:=⟨fofL l,fun _ _ _ hq=>fofL_ok h hq⟩
def cmpV:BinOp→Int→Int→Option Bool
  | .lss,m,n=>some (decide (m < n))
  | .leq,m,n=>some (decide (m≤n))
  | .gtr,m,n=>some (decide (n < m))
  | .geq,m,n=>some (decide (n≤m))
  | .eql,m,n=>some (decide (m=n))
  | .neq,m,n=>some (decide (m≠n))
  | _,_,_=>none
def kdB:IntKind→IntKind→Bool
  | .i64,.i64=>true
  | .u8,.u8=>true
  | .u64,.u64=>true
  | .i32,.i32=>true
  | .u32,.u32=>true
  | .u16,.u16=>true
  | _,_=>false
theorem kdB_eq {a b:IntKind} (h:kdB a b=true):a=b:=by cases a<;>cases b<;>first|rfl|cases h
def pureV (P:Program) [Fo P] (E:Env):Op→Option Value
  | .move x=>ev E x
  | .assign x=>ev E x
  | .pick q x y=>match ev E q with
    | some (.bool true)=>ev E x
    | some (.bool false)=>ev E y
    | _=>none
  | .nilCheck x=>match ev E x with
    | some (.pointer (some a))=>some (.pointer (some a))
    | _=>none
  | .unOp .not _ x=>match ev E x with
    | some (.bool b)=>some (.bool !b)
    | _=>none
  | .binOp o T x y U=>match ev E x,ev E y with
    | some (.int k m),some (.int k' n)=>bif kdB k k'&&Nat.beq T U then (match cmpV o m n with
      | some b=>some (.bool b)
      | none=>none) else none
    | _,_=>none
  | .extract x i=>match ev E x with
    | some (.tuple a)=>a.toList[i]?
    | _=>none
  | .fieldAddr T x i=>match ev E x with
    | some (.pointer (some ⟨g,o,none⟩))=>match Fo.f P T i with
      | some q=>some (.pointer (some ⟨g,o+q,none⟩))
      | none=>none
    | _=>none
  | _=>none
theorem pureV_pu {c:Cx} [Fo c.P] {E:Env} {o:Op} {ty:TypeId} {v:Value} (h:pureV c.P E o=some v):Pu c E o ty v:=by
  unfold pureV at h
  split at h
  · exact Pu.move h
  · exact Pu.assign h
  · split at h
    · rename_i hq;exact Pu.pickT hq rfl h
    · rename_i hq;exact Pu.pickF hq rfl h
    · cases h
  · split at h
    · rename_i hq;cases h;exact Pu.nilCheck hq
    · cases h
  · split at h
    · rename_i hq;cases h;exact Pu.not hq
    · cases h
  · split at h
    · rename_i k m k' n hx hy
      cases hk:(kdB k k'&&Nat.beq _ _) with
      | false=>rw [hk] at h;cases h
      | true =>
        rw [hk] at h
        simp only [Bool.and_eq_true] at hk
        obtain rfl:=kdB_eq hk.1
        obtain rfl:=Nat.eq_of_beq_eq_true hk.2
        simp only [cond_true] at h
        split at h
        · rename_i b hb
          cases h
          unfold cmpV at hb
          split at hb<;>first|(cases hb;done)|skip
          all_goals (simp only [Option.some.injEq] at hb;subst hb)
          · exact Pu.lss hx hy
          · exact Pu.leq hx hy
          · exact Pu.gtr hx hy
          · exact Pu.geq hx hy
          · exact Pu.eql hx hy
          · exact Pu.neq hx hy
        · cases h
    · cases h
  · split at h
    · rename_i a hx
      exact Pu.extract (vs:=a.toList) (by simpa using hx) h
    · cases h
  · split at h
    · rename_i g o hx
      split at h
      · rename_i q hq
        cases h
        obtain ⟨fs,fd,s,h1,h2,h3,h4,h5⟩:=Fo.ok _ _ _ hq
        exact Pu.fieldAddr h1 h2 h3 h4 hx (by rw [h5])
      · cases h
    · cases h
  · cases h
inductive Ps where
  | ctl
  | ops (a:Array Oper) (l:List Oper)
def At (c:Cx) (p:Ps) (k:List It) (E:Env) (L:List Sp):Prop:=match p with
  | .ctl=>J c k E L
  | .ops a l=>O c a l k E L
def wantV (ops:Array Oper) (n:Nat) (E:Env) (j:Nat) (want:Bool):Option Bool :=
  match (ops[j]?).bind (·.dst) with
  | some t=>bif Nat.blt t n then (match look E t with
    | some (.bool true)=>some want
    | some (.bool false)=>some (!want)
    | some (.agg _)=>some false
    | some v=>(match boolOf v with
      | none=>some false
      | some _=>none)
    | none=>none) else none
  | none=>none
def opsStep (P:Program) [Fo P] (n:Nat) (ops:Array Oper) (E:Env):Oper→Option Env
  | ⟨some d,o,_,_,_,none⟩=>bif Nat.blt d n then (match pureV P E o with
    | some v=>some ((d,v) :: E)
    | none=>none) else none
  | ⟨some d,o,_,_,_,some (j,want)⟩=>bif Nat.blt d n then (match wantV ops n E j want with
    | some true=>(match pureV P E o with
      | some v=>some ((d,v) :: E)
      | none=>none)
    | some false=>some ((d,undef) :: E)
    | none=>none) else none
  | _=>none
def ctlStep (E:Env):List It→Option (Ps×List It)
  | .blk _ :: k=>some (.ctl,k)
  | .scp :: k=>some (.ctl,k)
  | .code q :: k=>match q with
    | .seq x y=>some (.ctl,.code x :: .code y :: k)
    | .block id x=>some (.ctl,.code x :: .blk id :: k)
    | .scope x=>some (.ctl,.code x :: .scp :: k)
    | .skip=>some (.ctl,k)
    | .label _=>some (.ctl,k)
    | .exit id=>(match pop id k with
      | some k'=>some (.ctl,k')
      | none=>none)
    | .cond x t f=>(match ev E x with
      | some (.bool true)=>some (.ctl,.code t :: k)
      | some (.bool false)=>some (.ctl,.code f :: k)
      | _=>none)
    | .region _ ops false=>some (.ops ops ops.toList,k)
    | _=>none
  | _=>none
def adv (P:Program) [Fo P] (n:Nat):Nat→Ps→List It→Env→Option (Ps×List It×Env)
  | 0,p,k,E=>some (p,k,E)
  | f+1,.ctl,k,E=>match ctlStep E k with
    | some (p,k')=>adv P n f p k' E
    | none=>none
  | f+1,.ops _ [],k,E=>adv P n f .ctl k E
  | f+1,.ops a (o :: l),k,E=>match opsStep P n a E o with
    | some E'=>adv P n f (.ops a l) k E'
    | none=>none
section
variable {c:Cx} {k k':List It} {E E':Env} {L:List Sp} {p p':Ps} {ops:Array Oper}
theorem ctl_ok (h:ctlStep E k=some (p,k')) (hj:At c p k' E L):J c k E L:=by
  unfold ctlStep at h
  split at h
  · cases h;exact J.blk hj
  · cases h;exact J.scp hj
  · split at h
    · cases h;exact J.seq hj
    · cases h;exact J.block hj
    · cases h;exact J.scope hj
    · cases h;exact J.skip hj
    · cases h;exact J.label hj
    · split at h
      · rename_i hp;cases h;exact J.exit _ hp hj
      · cases h
    · split at h
      · rename_i hx;cases h;exact J.condT hx rfl hj
      · rename_i hx;cases h;exact J.condF hx rfl hj
      · cases h
    · rename_i ops
      cases h
      obtain ⟨l⟩:=ops
      exact J.region hj
    · cases h
  · cases h
theorem want_ok {a:Act} {n j:Nat} {want b:Bool} {o:Oper} (h:wantV ops n E j want=some b) (ha:Has n a E) (hg:o.guard=some (j,want)):Region.wanted o (yielded ops a.tmps)=b:=by
  unfold wantV at h
  split at h
  · rename_i t ht
    cases hb:Nat.blt t n with
    | false=>rw [hb] at h;cases h
    | true =>
      rw [hb,cond_true] at h
      split at h
      · rename_i hl;cases h
        cases want
        · exact wanted_no ha hg ht hl (by simp [boolOf]) hb
        · exact wanted_yes ha hg ht hl hb
      · rename_i hl;cases h
        cases want
        · exact wanted_yes ha hg ht hl hb
        · exact wanted_no ha hg ht hl (by simp [boolOf]) hb
      · rename_i hl;cases h;exact wanted_no ha hg ht hl (by simp [boolOf]) hb
      · rename_i v hl
        split at h
        · rename_i hn;cases h;exact wanted_no ha hg ht hl (by rw [hn];simp) hb
        · cases h
      · cases h
  · cases h
theorem ops_ok [Fo c.P] {o:Oper} {l:List Oper} (h:opsStep c.P c.n ops E o=some E') (hj:O c ops l k E' L):O c ops (o :: l) k E L:=by
  unfold opsStep at h
  split at h
  · rename_i d o _ _ _
    cases hd:Nat.blt d c.n with
    | false=>rw [hd] at h;cases h
    | true =>
      rw [hd,cond_true] at h
      split at h
      · rename_i v hv;cases h;exact O.p (pureV_pu hv) hd hj
      · cases h
  · rename_i d o _ _ _ j want
    cases hd:Nat.blt d c.n with
    | false=>rw [hd] at h;cases h
    | true =>
      rw [hd,cond_true] at h
      split at h
      · rename_i hw
        split at h
        · rename_i v hv;cases h
          exact fun ok a w ha hs=>wpList_step fun _ hK=>by
            rw [want_ok hw ha rfl,if_pos rfl]
            exact wp_of_run (pureV_pu hv a w ha _ _ _ _) (hK _ _ (hj ok _ w (ha.put v hd) hs))
        · cases h
      · rename_i hw
        cases h
        exact fun ok a w ha hs=>wpList_step fun _ hK=>by
          rw [want_ok hw ha rfl,if_neg (by simp)]
          exact hK _ _ (hj ok _ w (ha.put undef hd) hs)
      · cases h
  · cases h
theorem adv_ok [Fo c.P]:∀ {f:Nat} {p:Ps} {k:List It} {E:Env},adv c.P c.n f p k E=some (p',k',E')→At c p' k' E' L→At c p k E L
  | 0,p,k,E,h,hj=>by cases h;exact hj
  | f+1,.ctl,k,E,h,hj=>by
    unfold adv at h
    split at h
    · rename_i hs;exact ctl_ok hs (adv_ok h hj)
    · cases h
  | f+1,.ops a [],k,E,h,hj=>O.nil (adv_ok (f:=f) (p:=.ctl) h hj)
  | f+1,.ops a (o :: l),k,E,h,hj=>by
    unfold adv at h
    split at h
    · rename_i hs;exact ops_ok hs (adv_ok (p:=.ops a l) h hj)
    · cases h
theorem J.cc [Fo c.P] (f:Nat) (h:adv c.P c.n f .ctl k E=some (.ctl,k',E')) (hj:J c k' E' L):J c k E L:=adv_ok (p:=.ctl) h hj
theorem J.co [Fo c.P] {a:Array Oper} {l:List Oper} (f:Nat) (h:adv c.P c.n f .ctl k E=some (.ops a l,k',E')) (hj:O c a l k' E' L):J c k E L:=adv_ok (p:=.ctl) h hj
theorem O.oc [Fo c.P] {a:Array Oper} {l:List Oper} (f:Nat) (h:adv c.P c.n f (.ops a l) k E=some (.ctl,k',E')) (hj:J c k' E' L):O c a l k E L:=adv_ok (p:=.ops a l) h hj
theorem O.oo [Fo c.P] {a a':Array Oper} {l l':List Oper} (f:Nat) (h:adv c.P c.n f (.ops a l) k E=some (.ops a' l',k',E')) (hj:O c a' l' k' E' L):O c a l k E L:=adv_ok (p:=.ops a l) h hj
end
end Go.LK
namespace Go.LK
open Go Go.RowKit
def memB (i:Nat):List Nat→Bool
  | []=>false
  | j :: l=>bif Nat.beq i j then true else memB i l
theorem memB_iff {i:Nat}:∀ {l:List Nat},memB i l=true↔i∈l
  | []=>by simp [memB]
  | j :: l=>by
    unfold memB
    cases h:Nat.beq i j with
    | true=>simp [Nat.eq_of_beq_eq_true h]
    | false =>
      have hne:¬i=j:=fun e=>by subst e;simp at h
      simp [hne,memB_iff (l:=l)]
def ndB:List Nat→Bool
  | []=>true
  | i :: l=>!memB i l&&ndB l
theorem ndB_nodup:∀ {l:List Nat},ndB l=true→l.Nodup
  | [],_=>List.nodup_nil
  | i :: l,h=>by
    simp only [ndB,Bool.and_eq_true,Bool.not_eq_true'] at h
    exact List.nodup_cons.2 ⟨fun hi=>by rw [memB_iff.2 hi] at h;exact absurd h.1 (by simp),ndB_nodup h.2⟩
def selO (L:List Sp):List Nat→Option (List Sp)
  | []=>some []
  | i :: is=>match L[i]?,selO L is with
    | some A,some R=>some (A :: R)
    | _,_=>none
theorem selO_sel {L:List Sp}:∀ {is:List Nat} {R:List Sp},selO L is=some R→LK.sel L is=R
  | [],R,h=>by cases h;rfl
  | i :: is,R,h=>by
    unfold selO at h
    split at h
    · rename_i A R' hA hR
      cases h
      have ih:=selO_sel hR
      unfold LK.sel at ih ⊢
      rw [List.filterMap_cons,hA,ih]
    · cases h
def selN (L:List Sp) (is:List Nat):Option (List Sp):=bif ndB is then selO L is else none
theorem selN_ok {L R:List Sp} {is:List Nat} (h:selN L is=some R):is.Nodup∧LK.sel L is=R:=by
  unfold selN at h
  cases hb:ndB is with
  | true=>rw [hb] at h;exact ⟨ndB_nodup hb,selO_sel h⟩
  | false=>rw [hb] at h;cases h
def restI (is:List Nat):Nat→List Sp→List Nat
  | _,[]=>[]
  | i,_ :: L=>bif memB i is then restI is (i+1) L else i :: restI is (i+1) L
def splitO (L:List Sp) (is:List Nat):Option (List Sp×List Sp):=bif ndB (is++restI is 0 L) then (match selO L is,selO L (restI is 0 L) with
  | some A,some B=>some (A,B)
  | _,_=>none) else none
theorem splitO_ok {L A B:List Sp} {is:List Nat} (h:splitO L is=some (A,B)):(is++restI is 0 L).Nodup∧LK.sel L is=A∧LK.sel L (restI is 0 L)=B:=by
  unfold splitO at h
  cases hb:ndB (is++restI is 0 L) with
  | true =>
    rw [hb,cond_true] at h
    split at h
    · rename_i A' B' h1 h2
      cases h
      exact ⟨ndB_nodup hb,selO_sel h1,selO_sel h2⟩
    · cases h
  | false=>rw [hb] at h;cases h
def evs (E:Env):List Operand→Option (List Value)
  | []=>some []
  | x :: xs=>match ev E x,evs E xs with
    | some v,some vs=>some (v :: vs)
    | _,_=>none
theorem evs_ok {E:Env}:∀ {xs:List Operand} {vs:List Value},evs E xs=some vs→xs.map (ev E)=vs.map some
  | [],vs,h=>by cases h;rfl
  | x :: xs,vs,h=>by
    unfold evs at h
    split at h
    · rename_i v vs' h1 h2
      cases h
      rw [List.map_cons,List.map_cons,h1,evs_ok h2]
    · cases h
def cellsO:Value→Option (List Value)
  | .agg a=>some a.toList
  | .int k n=>some [.int k n]
  | .bool b=>some [.bool b]
  | .string s=>some [.string s]
  | .pointer p=>some [.pointer p]
  | .slice a n m=>some [.slice a n m]
  | .func f x y=>some [.func f x y]
  | .map m=>some [.map m]
  | _=>none
theorem cellsO_ok {u:Value} {vs:List Value} (h:cellsO u=some vs):u.cells=vs.toArray:=by
  unfold cellsO at h
  split at h<;>cases h<;>first|rfl|simp [Value.cells]
def takeO:List Value→Nat→Nat→Option (List Value)
  | _,0,0=>some []
  | v :: cs,0,n+1=>match takeO cs 0 n with
    | some vs=>some (v :: vs)
    | none=>none
  | _ :: cs,m+1,n=>takeO cs m n
  | [],_,_=>none
theorem takeO_ok:∀ {cs:List Value} {m n:Nat} {vs:List Value},takeO cs m n=some vs→(cs.drop m).take n=vs∧vs.length=n
  | cs,0,0,vs,h=>by
    have:takeO cs 0 0=some []:=by cases cs<;>rfl
    rw [this] at h;cases h;simp
  | v :: cs,0,n+1,vs,h=>by
    rw [takeO] at h
    split at h
    · rename_i ws hw
      cases h
      obtain ⟨h1,h2⟩:=takeO_ok hw
      simp only [List.drop_zero] at h1 ⊢
      rw [List.take_succ_cons,h1,List.length_cons,h2]
      exact ⟨rfl,rfl⟩
    · cases h
  | v :: cs,m+1,n,vs,h=>by
    rw [takeO] at h
    · have:=takeO_ok h
      simpa using this
  | [],0,n+1,vs,h=>by simp [takeO] at h
  | [],m+1,n,vs,h=>by simp [takeO] at h
def spliceO:List Value→Nat→List Value→Option (List Value)
  | cs,0,[]=>some cs
  | _ :: cs,0,v :: vs=>match spliceO cs 0 vs with
    | some r=>some (v :: r)
    | none=>none
  | x :: cs,n+1,vs=>match spliceO cs n vs with
    | some r=>some (x :: r)
    | none=>none
  | [],_,_=>none
theorem spliceO_ok:∀ {cs:List Value} {m:Nat} {vs r:List Value},spliceO cs m vs=some r→cs.take m++vs++cs.drop (m+vs.length)=r∧m+vs.length≤cs.length
  | cs,0,[],r,h=>by
    have:spliceO cs 0 []=some cs:=by cases cs<;>rfl
    rw [this] at h;cases h;simp
  | x :: cs,0,v :: vs,r,h=>by
    rw [spliceO] at h
    split at h
    · rename_i q hq
      cases h
      obtain ⟨h1,h2⟩:=spliceO_ok hq
      simp only [List.take_zero,List.nil_append,Nat.zero_add] at h1 h2 ⊢
      rw [List.length_cons,List.drop_succ_cons,List.cons_append,h1]
      exact ⟨rfl,by simp only [List.length_cons];omega⟩
    · cases h
  | x :: cs,n+1,vs,r,h=>by
    rw [spliceO] at h
    split at h
    · rename_i q hq
      cases h
      obtain ⟨h1,h2⟩:=spliceO_ok hq
      rw [List.take_succ_cons,show n+1+vs.length=(n+vs.length)+1 from by omega,List.drop_succ_cons,List.cons_append,List.cons_append,h1]
      exact ⟨rfl,by simp only [List.length_cons];omega⟩
    · cases h
  | [],0,v :: vs,r,h=>by simp [spliceO] at h
  | [],n+1,vs,r,h=>by simp [spliceO] at h
section
variable {c:Cx} {k:List It} {E:Env} {L:List Sp} {ops:Array Oper} {rest:List Oper} {o:Op} {ty:TypeId} {d:Nat} {pos:String} {af:Array Edge} {v V:Value} {x y z:Operand} {T t:TypeId} {s:Nat}
variable {α:Type} {f:α→List Value} {l:List α}
theorem Qt.lv (i:Nat) {g off:Nat} {cs:List Value} (hA:∀ w,(isAgg T).run c.P w=.ok false w) (hx:ev E x=some (.pointer (some ⟨g,off,none⟩))) (hi:L[i]?=some (var g cs t)) (hv:cs[off]?=some v):Qt c E L (.load T x) ty v :=
  Qt.ld hx (Cel.var i hi) (Nat.zero_add off).symm (Cut.one hA hv)
theorem Qt.lw (i:Nat) {g off:Nat} {cs:List Value} (hA:∀ w,(isAgg T).run c.P w=.ok false w) (hx:ev E x=some (.pointer (some ⟨g,off,none⟩))) (hi:c.Ro[i]?=some (var g cs t)) (hv:cs[off]?=some v):Qt c E L (.load T x) ty v :=
  Qt.ld hx (Cel.roVar i hi) (Nat.zero_add off).symm (Cut.one hA hv)
theorem Qt.lva (i:Nat) {g off n:Nat} {cs vs:List Value} (hA:∀ w,(isAgg T).run c.P w=.ok true w) (hs:∀ w,(sizeOf T).run c.P w=.ok n w) (hx:ev E x=some (.pointer (some ⟨g,off,none⟩))) (hi:L[i]?=some (var g cs t)) (hv:takeO cs off n=some vs):Qt c E L (.load T x) ty (.agg vs.toArray) :=
  Qt.ld hx (Cel.var i hi) (Nat.zero_add off).symm (Cut.agg vs hA hs (takeO_ok hv).1 (takeO_ok hv).2)
theorem Qt.lwa (i:Nat) {g off n:Nat} {cs vs:List Value} (hA:∀ w,(isAgg T).run c.P w=.ok true w) (hs:∀ w,(sizeOf T).run c.P w=.ok n w) (hx:ev E x=some (.pointer (some ⟨g,off,none⟩))) (hi:c.Ro[i]?=some (var g cs t)) (hv:takeO cs off n=some vs):Qt c E L (.load T x) ty (.agg vs.toArray) :=
  Qt.ld hx (Cel.roVar i hi) (Nat.zero_add off).symm (Cut.agg vs hA hs (takeO_ok hv).1 (takeO_ok hv).2)
theorem Qt.le {j p:Nat} {a:α} (hA:∀ w,(isAgg T).run c.P w=.ok false w) (hs:Src c L V s (l.map f)) (hj:l[j]?=some a) (off:Nat) (hx:ev E x=some (.pointer (some ⟨vblk V,p,none⟩))) (hp:p=voff V+j*s+off) (hv:(f a)[off]?=some v):Qt c E L (.load T x) ty v :=
  Qt.ld hx (Cel.eltM hs hj) hp (Cut.one hA hv)
theorem Qt.lea {j p n:Nat} {a:α} {vs:List Value} (hA:∀ w,(isAgg T).run c.P w=.ok true w) (hz:∀ w,(sizeOf T).run c.P w=.ok n w) (hs:Src c L V s (l.map f)) (hj:l[j]?=some a) (off:Nat) (hx:ev E x=some (.pointer (some ⟨vblk V,p,none⟩))) (hp:p=voff V+j*s+off) (hv:takeO (f a) off n=some vs):Qt c E L (.load T x) ty (.agg vs.toArray) :=
  Qt.ld hx (Cel.eltM hs hj) hp (Cut.agg vs hA hz (takeO_ok hv).1 (takeO_ok hv).2)
theorem Qt.ix {e j:Nat} {m:Int} {a:α} (hT:∀ w,(underlying T).run c.P w=.ok (.slice e) w) (hz:∀ w,(sizeOf e).run c.P w=.ok s w) (hx:ev E x=some V) (hs:Src c L V s (l.map f)) (hj:l[j]?=some a) (hy:ev E y=some (.int .i64 m)) (hm:m=(j:Int)) :
    Qt c E L (.indexAddr T x y) ty (.pointer (some ⟨vblk V,voff V+m.toNat*s,none⟩)):=Qt.idxM hT hz hx hs hy (by omega) (by have:=(List.getElem?_eq_some_iff.1 hj).1;omega)
theorem O.gz {j:Nat} {want:Bool} (hq:Qt c E L o ty v) (hw:wantV ops c.n E j want=some true) (hd:Nat.blt d c.n=true) (h:O c ops rest k ((d,v) :: E) L):O c ops (⟨some d,o,ty,pos,af,some (j,want)⟩ :: rest) k E L:=fun ok a w ha hs =>
  wpList_step fun _ hK=>by
    rw [want_ok hw ha rfl,if_pos rfl]
    exact wp_of_run (hq ok a w ha hs _ _ _ _) (hK _ _ (h ok _ w (ha.put v hd) hs))
theorem O.gy {j:Nat} {want:Bool} {Q:Value→List Sp→Prop} (hl:Lo c E L o ty Q) (hw:wantV ops c.n E j want=some true) (hd:Nat.blt d c.n=true) (h:∀ v L',Q v L'→O c ops rest k ((d,v) :: E) L'):O c ops (⟨some d,o,ty,pos,af,some (j,want)⟩ :: rest) k E L:=fun ok a w ha hs =>
  wpList_step fun _ hK=>by
    rw [want_ok hw ha rfl,if_pos rfl]
    exact hl ok a w ha hs _ _ _ _ _ _ fun v L' w' hR hs'=>hK _ _ (h v L' hR ok _ w' (ha.put v hd) hs')
theorem S.gz {T':World→Act→Prop} {j:Nat} {want:Bool} (hq:Qt c E L o ty v) (hw:wantV ops c.n E j want=some true) (hd:Nat.blt d c.n=true) (h:S c ops T' rest ((d,v) :: E) L):S c ops T' (⟨some d,o,ty,pos,af,some (j,want)⟩ :: rest) E L:=fun ok a w ha hs =>
  wpStill_step fun _ hK=>by
    rw [want_ok hw ha rfl,if_pos rfl]
    exact still_of_run (hq ok a w ha hs _ _ _ _) (hK _ (h ok _ w (ha.put v hd) hs))
theorem Mx.gz {T':Env→List Sp→Prop} {K:List Sp} {i j:Nat} {want:Bool} {seen:List Nat} {rest:List (Nat×Bool)} (hq:Qt c E K o ty v) (hi:ops[i]?=some ⟨some d,o,ty,pos,af,some (j,want)⟩) (hw:wantV ops c.n E j want=some true) (hd:Nat.blt d c.n=true) (h:Mx c ops T' (i :: seen) rest ((d,v) :: E) K L):Mx c ops T' seen ((i,false) :: rest) E K L :=
  ⟨_,d,v,hi,rfl,hd,fun ok a w ha hs=>.inl ⟨want_ok hw ha rfl,.inl (hq ok a w ha hs _ _ _ _)⟩,(fun h_=>absurd h_ (by simp [pureO])),h⟩
theorem Lo.al {u:Value} {cs:List Value} (hz:∀ w,(zeroValue T).run c.P w=.ok u w) (hc:cellsO u=some cs):Lo c E L (.alloc T) ty fun v L'=>∃ g,v=.pointer (some ⟨g,0,none⟩)∧L'=var g cs T :: L:=Lo.alloc cs hz (cellsO_ok hc)
theorem Lo.bx {u:Value} {cs:List Value} (hx:ev E x=some u) (hc:cellsO u=some cs):Lo c E L (.box T x) ty fun v L'=>∃ g,v=.pointer (some ⟨g,0,none⟩)∧L'=var g cs T :: L:=Lo.box cs hx (cellsO_ok hc)
theorem Lo.st (i:Nat) {g off sz:Nat} {cs vs cs':List Value} {u:Value} (hs:∀ w,(sizeOf T).run c.P w=.ok sz w) (hx:ev E x=some (.pointer (some ⟨g,off,none⟩))) (hy:ev E y=some u) (hi:L[i]?=some (var g cs t))
    (hc:cellsO u=some vs) (hl:vs.length=sz) (h1:(vs.all Value.oneCell')=true) (hcs:spliceO cs off vs=some cs') :
    Lo c E L (.store T x y) ty fun _ L'=>L'=L.set i (var g cs' t) :=
  Lo.store i cs' hx hy hi hs (cellsO_ok hc) hl h1 (spliceO_ok hcs).1 (Nat.ble_eq_true_of_le (by have:=(spliceO_ok hcs).2;omega))
theorem Lo.so (i:Nat) {g off:Nat} {cs cs':List Value} {u:Value} (hs:∀ w,(sizeOf T).run c.P w=.ok 1 w) (h1:u.oneCell'=true) (hx:ev E x=some (.pointer (some ⟨g,off,none⟩))) (hy:ev E y=some u) (hi:L[i]?=some (var g cs t))
    (hcs:spliceO cs off [u]=some cs'):Lo c E L (.store T x y) ty fun _ L'=>L'=L.set i (var g cs' t) :=
  Lo.store i cs' hx hy hi hs (one_cells h1) rfl (one_all h1) (spliceO_ok hcs).1 (Nat.ble_eq_true_of_le (by have:=(spliceO_ok hcs).2;simpa using this))
def RoK (c:Cx) (L:List Sp) (is:List Nat) (RoC:List Sp):Prop:=∀ LC,LK.sel L is=LC→RoOk c L LC RoC
variable {is:List Nat} {RoC LC R:List Sp} {A B:Sp}
theorem RoK.nil:RoK c L is []:=fun _ _=>RoOk.nil
theorem RoK.ro (i:Nat) (hi:c.Ro[i]?=some A) (h:RoK c L is RoC):RoK c L is (A :: RoC):=fun LC hL=>RoOk.ro i hi is hL (h LC hL)
theorem RoK.rc (i:Nat) (hAB:∀ w,B.holds w→A.holds w∧∀ k∈A.foot,k∈B.foot) (hi:c.Ro[i]?=some B) (h:RoK c L is RoC):RoK c L is (A :: RoC):=fun LC hL=>RoOk.roC i hi hAB is hL (h LC hL)
theorem RoK.of (j:Nat) (hAB:∀ w,B.holds w→A.holds w∧∀ k∈A.foot,k∈B.foot) (hj:L[j]?=some B) (hn:memB j is=false) (h:RoK c L is RoC):RoK c L is (A :: RoC):=fun LC hL=>RoOk.of j hj hAB is (fun hm=>by rw [memB_iff.2 hm] at hn;cases hn) hL (h LC hL)
theorem RoK.own (j:Nat) (hj:L[j]?=some A) (hn:memB j is=false) (h:RoK c L is RoC):RoK c L is (A :: RoC):=RoK.of j same_rd hj hn h
theorem Lo.ca {f:FuncId} {xs:List Operand} {ts:Array TypeId} {vs:List Value} {post:Value→List Sp→Prop} (hcall:∀ args w,(callFunc f args).run c.P w=.ok (.enter f args) w) (ht:Tri c.P f vs.toArray RoC LC post) (is:List Nat)
    (hxs:evs E xs=some vs) (hS:splitO L is=some (LC,R)) (hro:RoK c L is RoC) :
    Lo c E L (.call { callee:=.value (.func f),args:=xs.toArray,argTypes:=ts }) ty fun v L'=>∃ Lp,post v Lp∧L'=Lp++R :=
  Lo.call vs hcall (evs_ok hxs) ht is (restI is 0 L) (splitO_ok hS).1 (splitO_ok hS).2.1 R (splitO_ok hS).2.2 (hro LC (splitO_ok hS).2.1)
theorem Lo.cv {f:FuncId} {xs:List Operand} {ts:Array TypeId} {vs caps:List Value} {post:Value→List Sp→Prop} (hcall:∀ args w,(callFunc f args).run c.P w=.ok (.enter f args) w) (hx:ev E x=some (.func (.func f) #[] caps.toArray)) (hxs:evs E xs=some vs) (ht:Tri c.P f (vs++caps).toArray RoC LC post) (is:List Nat)
    (hS:splitO L is=some (LC,R)) (hro:RoK c L is RoC) :
    Lo c E L (.call { callee:=.value x,args:=xs.toArray,argTypes:=ts }) ty fun v L'=>∃ Lp,post v Lp∧L'=Lp++R :=
  Lo.callV hcall hx (evs_ok hxs) ht is (restI is 0 L) (splitO_ok hS).1 (splitO_ok hS).2.1 R (splitO_ok hS).2.2 (hro LC (splitO_ok hS).2.1)
theorem Lo.cb {f:FuncId} {xs:List Operand} {ts:Array TypeId} {first vs caps:List Value} {post:Value→List Sp→Prop} (hcall:∀ args w,(callFunc f args).run c.P w=.ok (.enter f args) w) (hx:ev E x=some (.func (.func f) first.toArray caps.toArray)) (hxs:evs E xs=some vs) (ht:Tri c.P f (first++vs++caps).toArray RoC LC post) (is:List Nat)
    (hS:splitO L is=some (LC,R)) (hro:RoK c L is RoC) :
    Lo c E L (.call { callee:=.value x,args:=xs.toArray,argTypes:=ts }) ty fun v L'=>∃ Lp,post v Lp∧L'=Lp++R :=
  Lo.callB hcall hx (evs_ok hxs) ht is (restI is 0 L) (splitO_ok hS).1 (splitO_ok hS).2.1 R (splitO_ok hS).2.2 (hro LC (splitO_ok hS).2.1)
variable {b:Bool} {p:Prop} [Decidable p]
theorem put_eq {n:Nat} {a:Act} (ha:Has n a E) {q:Value} (hq:look E d=some q):Has n a ((d,q) :: E):=⟨ha.size,ha.defers,fun t u hu=>by
  rw [look_cons] at hu
  by_cases e:d=t
  · rw [if_pos e] at hu;cases hu;exact ha.at_ t _ (e ▸ hq)
  · rw [if_neg e] at hu;exact ha.at_ t u hu⟩
theorem O.sp (d:Nat) (hb:look E d=some (.bool b)) (h1:b=true→O c ops rest k ((d,.bool true) :: E) L) (h2:b=false→O c ops rest k ((d,.bool false) :: E) L):O c ops rest k E L:=fun ok a w ha hs=>by
  cases hq:b with
  | true=>rw [hq] at hb;exact h1 hq ok a w (put_eq ha hb) hs
  | false=>rw [hq] at hb;exact h2 hq ok a w (put_eq ha hb) hs
theorem O.sd (d:Nat) (hb:look E d=some (.bool (decide p))) (h1:p→O c ops rest k ((d,.bool true) :: E) L) (h2:¬p→O c ops rest k ((d,.bool false) :: E) L):O c ops rest k E L:=O.sp d hb (fun h=>h1 (of_decide_eq_true h)) (fun h=>h2 (of_decide_eq_false h))
theorem S.sp {T':World→Act→Prop} (d:Nat) (hb:look E d=some (.bool b)) (h1:b=true→S c ops T' rest ((d,.bool true) :: E) L) (h2:b=false→S c ops T' rest ((d,.bool false) :: E) L):S c ops T' rest E L:=fun ok a w ha hs=>by
  cases hq:b with
  | true=>rw [hq] at hb;exact h1 hq ok a w (put_eq ha hb) hs
  | false=>rw [hq] at hb;exact h2 hq ok a w (put_eq ha hb) hs
theorem S.sd {T':World→Act→Prop} (d:Nat) (hb:look E d=some (.bool (decide p))) (h1:p→S c ops T' rest ((d,.bool true) :: E) L) (h2:¬p→S c ops T' rest ((d,.bool false) :: E) L):S c ops T' rest E L:=S.sp d hb (fun h=>h1 (of_decide_eq_true h)) (fun h=>h2 (of_decide_eq_false h))
theorem O.kt (d:Nat) (hb:look E d=some (.bool b)) (h:b=true) (hj:O c ops rest k ((d,.bool true) :: E) L):O c ops rest k E L:=fun ok a w ha hs=>hj ok a w (put_eq ha (h ▸ hb)) hs
theorem O.kf (d:Nat) (hb:look E d=some (.bool b)) (h:b=false) (hj:O c ops rest k ((d,.bool false) :: E) L):O c ops rest k E L:=fun ok a w ha hs=>hj ok a w (put_eq ha (h ▸ hb)) hs
theorem J.cd {x:Operand} {t' f':Code} (hx:ev E x=some (.bool (decide p))) (ht:p→J c (.code t' :: k) E L) (hf:¬p→J c (.code f' :: k) E L):J c (.code (.cond x t' f') :: k) E L:=J.cond hx (fun h=>ht (of_decide_eq_true h)) (fun h=>hf (of_decide_eq_false h))
theorem ex_at {i:Nat} (h:i < l.length):∃ x,l[i]?=some x:=⟨_,List.getElem?_eq_getElem h⟩
end
def evP (E:Env):List (Nat×Operand)→Option (List (Nat×Value))
  | []=>some []
  | (i,x) :: xs=>match ev E x,evP E xs with
    | some v,some vs=>some ((i,v) :: vs)
    | _,_=>none
theorem evP_ok {E:Env}:∀ {xs:List (Nat×Operand)} {vs:List (Nat×Value)},evP E xs=some vs→xs.map (fun p=>(p.1,ev E p.2))=vs.map (fun p=>(p.1,some p.2))
  | [],vs,h=>by cases h;rfl
  | (i,x) :: xs,vs,h=>by
    unfold evP at h
    split at h
    · rename_i v vs' h1 h2
      cases h
      rw [List.map_cons,List.map_cons,h1,evP_ok h2]
    · cases h
section
variable {c:Cx} {E:Env} {L:List Sp} {ty:TypeId} {V:Value} {x y:Operand} {T t:TypeId} {s:Nat} {α:Type} {f:α→List Value} {l:List α}
theorem Lo.bm {n:Nat} {parts:List (Nat×Operand)} (f:α→List Value) (l:List α) {vs:List (Nat×Value)} {zv:Value} (hT:∀ w,(underlying T).run c.P w=.ok (.slice t) w) (hs:∀ w,(sizeOf t).run c.P w=.ok s w) (hz:∀ w,(zeroValue t).run c.P w=.ok zv w)
    (hp:evP E parts=some vs) (hn:Nat.ble (n*s) 16777216=true) (hn0:Nat.blt 0 (n*s)=true)
    (hf:Instr.fill (fun i=>some (i*s,s)) ((Array.range (n*s)).map (zv.cells[·%zv.cells.size]!)) vs=some (l.map f).flatten.toArray) (hl:(l.map f).length=n) (hle:((l.map f).all (fun e=>e.length == s))=true) :
    Lo c E L (.buildSlice T n parts.toArray) ty fun v L'=>L'=row v t s (l.map f) :: L:=Lo.buildM f l vs hT hs hz (evP_ok hp) hn hn0 hf hl hle
theorem Lo.am (i:Nat) {Y:Value} {l':List α} {e:TypeId} {inf:TypeInfo} {zv:Value} {bytes:Nat} (hT:c.P.underlying T=some (.slice t)) (hinf:c.P.info? t=some inf∧inf.zero=some zv∧inf.size=s∧inf.bytes=bytes) (hzs:zv.cells.size=s) (hs0:Nat.blt 0 s=true)
    (hx:ev E x=some V) (hi:L[i]?=some (row V t s (l.map f))) (hy:ev E y=some Y) (hs:Src c L Y s (l'.map f)) (h1:∀ a∈l',(f a).all Value.oneCell'=true)
    (h63:l.length+l'.length≤9223372036854775807) (hb:(l.length+l'.length)*bytes≤140737488355328) :
    Lo c E L (.call { callee:=.builtin .append,args:=#[x,y],argTypes:=#[T,T] }) e fun v L'=>L'=L.set i (row v t s ((l++l').map f)) :=
  Lo.appendM i hT hinf.1 hinf.2.1 hinf.2.2.1 hinf.2.2.2 hzs hs0 hx hi hy hs h1 h63 hb
end
theorem J.nr {c:Cx} {k:List It} {E:Env} {L:List Sp} (t s:Nat) (els:List (List Value)) (he:els=[]) (h:J c k E (row (.slice none 0 0) t s els :: L)):J c k E L:=J.nilRow t s (he ▸ h)
theorem O.nr {c:Cx} {k:List It} {E:Env} {L:List Sp} {ops:Array Oper} {rest:List Oper} (t s:Nat) (els:List (List Value)) (he:els=[]) (h:O c ops rest k E (row (.slice none 0 0) t s els :: L)):O c ops rest k E L:=O.nilRow t s (he ▸ h)
theorem J.nb {c:Cx} {k:List It} {E:Env} {L:List Sp} (As:List Sp) (he:As=[]) (h:J c k E (bun As :: L)):J c k E L:=J.re (by subst he;exact Re.new) h
theorem Re.sn {L L':List Sp} (is:List Nat) (h:selN L is=some L'):Re L L':=Re.sel is (selN_ok h).1 (selN_ok h).2
theorem J.dm {c:Cx} {k:List It} {E:Env} {L K:List Sp} {id:Nat} {l:List Oper} (ord:List (Nat×Bool)) (is:List Nat) (hm:c.P.follows .mixedOrders=true) (hB:mixB l.toArray ord=true) (hL:selN L is=some K)
    (h:Mx c l.toArray (fun E' L'=>J c k E' L') [] ord E K L):J c (.code (.region id l.toArray true) :: k) E L:=J.drawMix ord is K hm hB (selN_ok hL).1 (selN_ok hL).2 h
theorem A.mx {c:Cx} {k:List It} {E:Env} {L K:List Sp} {l:List Oper} (ord:List (Nat×Bool)) (is:List Nat) (hB:mixB l.toArray ord=true) (hL:selN L is=some K)
    (h:Mx c l.toArray (fun E' L'=>J c k E' L') [] ord E K L):A c l k E L:=A.mix ord is K hB (selN_ok hL).1 (selN_ok hL).2 h
theorem MxK.gp {c:Cx} {E:Env} {K K' L':List Sp} {ops:Array Oper} {T':Env→List Sp→Prop} {i:Nat} {seen:List Nat} {rest:List (Nat×Bool)} (is js:List Nat) (hL:selN L' is=some K') (hK:selN K' js=some K) (h:Mx c ops T' (i :: seen) rest E K' L'):MxK c ops T' i seen rest E K L' :=
  MxK.go is js K' (selN_ok hL).1 (selN_ok hL).2 (selN_ok hK).1 (selN_ok hK).2 h
theorem MxK.al {c:Cx} {E:Env} {K K' L':List Sp} {ops:Array Oper} {T':Env→List Sp→Prop} {i:Nat} {seen:List Nat} {rest:List (Nat×Bool)} (is:List Nat) (hL:selN L' is=some K') (hw:allB ops i seen=true) (h:Mx c ops T' (i :: seen) rest E K' L'):MxK c ops T' i seen rest E K L' :=
  MxK.all is K' (selN_ok hL).1 (selN_ok hL).2 hw h
section
variable {w:World} {M:List Nat} {post:Value→List Sp→Prop} {P:Program} {fn:Func} {n:Nat} {Ro:List Sp} {rs:List ResultVar} {E:Env} {L L':List Sp} {k:List It}
theorem J.rn (vs:List Value) (is:List Nat) (hr:fn.results=rs.toArray) (hv:RVs ⟨P,fn,n,w,M,Ro,endPost w M post⟩ E L rs vs) (hL:selN L is=some L') (h:post (vOf vs) L'):J ⟨P,fn,n,w,M,Ro,endPost w M post⟩ (.code .ret :: k) E L :=
  J.ret (Fin.ret hr vs hv is (selN_ok hL).1 L' (selN_ok hL).2 h)
theorem J.r1 {t:Nat} {v:Value} (is:List Nat) (hr:fn.results=#[.tmp t]) (hv:look E t=some v) (hL:selN L is=some L') (h:post (vOf [v]) L'):J ⟨P,fn,n,w,M,Ro,endPost w M post⟩ (.code .ret :: k) E L :=
  J.rn (rs:=[.tmp t]) [v] is hr ⟨hv,trivial⟩ hL h
theorem J.r0 {t:Nat} {v:Value} (hr:fn.results=#[.tmp t]) (hv:look E t=some v) (h:post (vOf [v]) []):J ⟨P,fn,n,w,M,Ro,endPost w M post⟩ (.code .ret :: k) E L:=J.r1 [] hr hv rfl h
theorem J.dn (vs:List Value) (is:List Nat) (hr:fn.results=rs.toArray) (hv:RVs ⟨P,fn,n,w,M,Ro,endPost w M post⟩ E L rs vs) (hL:selN L is=some L') (h:post (vOf vs) L'):J ⟨P,fn,n,w,M,Ro,endPost w M post⟩ [] E L :=
  J.done (Fin.ret hr vs hv is (selN_ok hL).1 L' (selN_ok hL).2 h)
theorem Tri.en {f:FuncId} {body:Code} {args:List Value} (hf:P.funcs[f]?=some fn) (hb:fn.body=some body) (hn:fn.ntmps=n) (hle:Nat.ble args.length n=true)
    (h:∀ w,J { P:=P,fn:=fn,n:=n,w0:=w,M:=feet L,Ro:=Ro,R:=endPost w (feet L) post } [.code body] (envOf 0 args) L):Tri P f args.toArray Ro L post:=Tri.enter n hf hb hn hle h
end
def pickO (E:Env):List Nat→Option Env
  | []=>some []
  | t :: ts=>match look E t,pickO E ts with
    | some v,some P=>some ((t,v) :: P)
    | _,_=>none
theorem pickO_sub {E:Env}:∀ {ts:List Nat} {P:Env},pickO E ts=some P→Sub P E
  | [],P,h=>by cases h;trivial
  | t :: ts,P,h=>by
    unfold pickO at h
    split at h
    · rename_i v P' h1 h2
      cases h
      exact ⟨h1,pickO_sub h2⟩
    · cases h
theorem Sub.app {E:Env}:∀ {A B:Env},Sub A E→Sub B E→Sub (A++B) E
  | [],_,_,h=>h
  | (_,_) :: A,_,⟨h1,h2⟩,h=>⟨h1,Sub.app (A:=A) h2 h⟩
section
variable {c:Cx} {k:List It} {E P:Env} {L R:List Sp}
theorem sel_app {L:List Sp} {is js:List Nat}:LK.sel L (is++js)=LK.sel L is++LK.sel L js:=by simp [LK.sel]
def selN2 (L:List Sp) (is js:List Nat):Option (List Sp×List Sp):=bif ndB (is++js) then (match selO L is,selO L js with
  | some A,some B=>some (A,B)
  | _,_=>none) else none
theorem selN2_ok {L A B:List Sp} {is js:List Nat} (h:selN2 L is js=some (A,B)):(is++js).Nodup∧LK.sel L is=A∧LK.sel L js=B:=by
  unfold selN2 at h
  cases hb:ndB (is++js) with
  | true =>
    rw [hb,cond_true] at h
    split at h
    · rename_i A' B' h1 h2
      cases h
      exact ⟨ndB_nodup hb,selO_sel h1,selO_sel h2⟩
    · cases h
  | false=>rw [hb] at h;cases h
theorem J.lo {X:Type} (φ:X→Prop) (EE:X→Env) (LL:X→List Sp) (μ:X→Nat) {x:Code} (x0:X) (ts is js:List Nat) (h0:φ x0) (hE:Sub (EE x0) E) (hP:pickO E ts=some P) (hL:selN2 L is js=some (LL x0,R))
    (round:∀ y,φ y→J c (.code x :: .lp (inv c φ (fun y=>EE y++P) (fun y=>LL y++R) μ (μ y)) :: k) (EE y++P) (LL y++R)):J c (.code (.loop x) :: k) E L :=
  J.loop φ (fun y=>EE y++P) (fun y=>LL y++R) μ x0 h0 (Sub.app hE (pickO_sub hP)) (is++js) (selN2_ok hL).1 (by rw [sel_app,(selN2_ok hL).2.1,(selN2_ok hL).2.2]) round
theorem J.lq {X:Type} {φ:X→Prop} {EE:X→Env} {LL:X→List Sp} {μ:X→Nat} {m:Nat} (y:X) (ts is js:List Nat) (hφ:φ y) (hm:μ y < m) (hE:Sub (EE y) E) (hP:pickO E ts=some P) (hL:selN2 L is js=some (LL y,R)) :
    J c (.lp (inv c φ (fun y=>EE y++P) (fun y=>LL y++R) μ m) :: k) E L:=J.lp y hφ hm (Sub.app hE (pickO_sub hP)) (is++js) (selN2_ok hL).1 (by rw [sel_app,(selN2_ok hL).2.1,(selN2_ok hL).2.2])
theorem eqi {kd:IntKind} {a b:Int} (h:a=b):some (Value.int kd a)=some (Value.int kd b):=by rw [h]
end
section
variable {c:Cx} {E E':Env} {L K:List Sp} {ops:Array Oper}
def advS (P:Program) [Fo P] (n:Nat) (ops:Array Oper):Nat→List Oper→Env→Option (List Oper×Env)
  | 0,l,E=>some (l,E)
  | f+1,o :: l,E=>match opsStep P n ops E o with
    | some E'=>advS P n ops f l E'
    | none=>none
  | _+1,[],_=>none
theorem opsS_ok [Fo c.P] {T':World→Act→Prop} {o:Oper} {l:List Oper} (h:opsStep c.P c.n ops E o=some E') (hj:S c ops T' l E' L):S c ops T' (o :: l) E L:=by
  unfold opsStep at h
  split at h
  · rename_i d o _ _ _
    cases hd:Nat.blt d c.n with
    | false=>rw [hd] at h;cases h
    | true =>
      rw [hd,cond_true] at h
      split at h
      · rename_i v hv;cases h;exact S.p (pureV_pu hv) hd hj
      · cases h
  · rename_i d o _ _ _ j want
    cases hd:Nat.blt d c.n with
    | false=>rw [hd] at h;cases h
    | true =>
      rw [hd,cond_true] at h
      split at h
      · rename_i hw
        split at h
        · rename_i v hv;cases h
          exact fun ok a w ha hs=>wpStill_step fun _ hK=>by
            rw [want_ok hw ha rfl,if_pos rfl]
            exact still_of_run (pureV_pu hv a w ha _ _ _ _) (hK _ (hj ok _ w (ha.put v hd) hs))
        · cases h
      · rename_i hw
        cases h
        exact fun ok a w ha hs=>wpStill_step fun _ hK=>by
          rw [want_ok hw ha rfl,if_neg (by simp)]
          exact hK _ (hj ok _ w (ha.put undef hd) hs)
      · cases h
  · cases h
theorem advS_ok [Fo c.P] {T':World→Act→Prop}:∀ {f:Nat} {l l':List Oper} {E E':Env},advS c.P c.n ops f l E=some (l',E')→S c ops T' l' E' L→S c ops T' l E L
  | 0,l,_,E,_,h,hj=>by cases h;exact hj
  | f+1,o :: l,_,E,_,h,hj=>by
    unfold advS at h
    split at h
    · rename_i hs;exact opsS_ok hs (advS_ok h hj)
    · cases h
  | f+1,[],_,E,_,h,hj=>by cases h
theorem S.r [Fo c.P] {T':World→Act→Prop} {l l':List Oper} (f:Nat) (h:advS c.P c.n ops f l E=some (l',E')) (hj:S c ops T' l' E' L):S c ops T' l E L:=advS_ok h hj
def advM (P:Program) [Fo P] (n:Nat) (ops:Array Oper):Nat→List Nat→List (Nat×Bool)→Env→Option (List Nat×List (Nat×Bool)×Env)
  | 0,seen,l,E=>some (seen,l,E)
  | f+1,seen,(i,false) :: l,E=>match ops[i]? with
    | some o=>(match opsStep P n ops E o with
      | some E'=>advM P n ops f (i :: seen) l E'
      | none=>none)
    | none=>none
  | _+1,_,_,_=>none
theorem opsM_ok [Fo c.P] {T':Env→List Sp→Prop} {i:Nat} {seen:List Nat} {l:List (Nat×Bool)} {o:Oper} (hi:ops[i]?=some o) (h:opsStep c.P c.n ops E o=some E') (hj:Mx c ops T' (i :: seen) l E' K L):Mx c ops T' seen ((i,false) :: l) E K L:=by
  unfold opsStep at h
  split at h
  · rename_i d o _ _ _
    cases hd:Nat.blt d c.n with
    | false=>rw [hd] at h;cases h
    | true =>
      rw [hd,cond_true] at h
      split at h
      · rename_i v hv;cases h;exact Mx.p hi (pureV_pu hv) hd hj
      · cases h
  · rename_i d o _ _ _ j want
    cases hd:Nat.blt d c.n with
    | false=>rw [hd] at h;cases h
    | true =>
      rw [hd,cond_true] at h
      split at h
      · rename_i hw
        split at h
        · rename_i v hv;cases h
          exact ⟨_,d,v,hi,rfl,hd,fun ok a w ha hs=>.inl ⟨want_ok hw ha rfl,.inl (pureV_pu hv a w ha _ _ _ _)⟩,(fun h_=>absurd h_ (by simp [pureO])),hj⟩
        · cases h
      · rename_i hw
        cases h
        exact ⟨_,d,undef,hi,rfl,hd,fun _ _ _ ha _=>.inr ⟨want_ok hw ha rfl,rfl⟩,(fun h_=>absurd h_ (by simp [pureO])),hj⟩
      · cases h
  · cases h
theorem advM_ok [Fo c.P] {T':Env→List Sp→Prop}:∀ {f:Nat} {seen seen':List Nat} {l l':List (Nat×Bool)} {E E':Env},advM c.P c.n ops f seen l E=some (seen',l',E')→Mx c ops T' seen' l' E' K L→Mx c ops T' seen l E K L
  | 0,seen,_,l,_,E,_,h,hj=>by cases h;exact hj
  | f+1,seen,_,(i,false) :: l,_,E,_,h,hj=>by
    unfold advM at h
    split at h
    · rename_i o hi
      split at h
      · rename_i hs;exact opsM_ok hi hs (advM_ok h hj)
      · cases h
    · cases h
  | f+1,seen,_,(i,true) :: l,_,E,_,h,hj=>by cases h
  | f+1,seen,_,[],_,E,_,h,hj=>by cases h
theorem Mx.r [Fo c.P] {T':Env→List Sp→Prop} {seen seen':List Nat} {l l':List (Nat×Bool)} (f:Nat) (h:advM c.P c.n ops f seen l E=some (seen',l',E')) (hj:Mx c ops T' seen' l' E' K L):Mx c ops T' seen l E K L:=advM_ok h hj
end
end Go.LK
namespace Go.LK
open Go Go.RowKit
def Un (P:Program) (x:Code) (Q:Exit→Act→World→Prop) (a:Act) (w:World):Prop :=
  ∀ (b:Go.Frame) (kk:List Item) (cs:List Go.Frame),∃ e a' w',Q e a' w'∧Arrives P (lone (b.at a (.code x :: .inLoop x :: kk)) cs w) b kk cs e a' w'
theorem un_of {P:Program} {x:Code} {Q:Exit→Act→World→Prop} {a:Act} {w:World} (h:Code.wp P x (Exit.then (Un P x Q) Q) a w):Un P x Q a w:=fun b kk cs=>by
  obtain ⟨e,a₁,w₁,hq,harr⟩:=h b (.inLoop x :: kk) cs
  cases e with
  | normal =>
    obtain ⟨e₂,a₂,w₂,hq₂,harr₂⟩:=hq b kk cs
    exact ⟨e₂,a₂,w₂,hq₂,.of_steps (Steps.trans harr (.one step_inLoop)) harr₂⟩
  | exit id=>exact ⟨_,a₁,w₁,hq,.pass (x:=.inLoop x) rfl (fun _ _=>.inl (by simp)) harr⟩
  | goto l=>exact ⟨_,a₁,w₁,hq,.pass (x:=.inLoop x) rfl (fun _ _=>.inl (by simp)) harr⟩
  | ret=>exact ⟨_,a₁,w₁,hq,.pass (x:=.inLoop x) rfl (fun _ _=>.inl (by simp)) harr⟩
  | panic ch=>exact ⟨_,a₁,w₁,hq,.pass (x:=.inLoop x) rfl (fun _ _=>.inl (by simp)) harr⟩
  | outgrown=>exact ⟨_,a₁,w₁,hq,.pass (x:=.inLoop x) rfl (fun _ _=>.inl (by simp)) harr⟩
section
variable {c:Cx} {k:List It} {E:Env} {L:List Sp} {x:Code}
theorem J.un (h:J c (.code x :: .lp (Un c.P x (c.Q k)) :: k) E L):J c (.code (.loop x) :: k) E L:=fun ok a w ha hs b kk cs=>by
  obtain ⟨e,a',w',hq,harr⟩:=un_of (h ok a w ha hs) b kk cs
  exact ⟨e,a',w',hq,.of_steps (.one step_loop) harr⟩
theorem J.again (h:J c (.code x :: .lp (Un c.P x (c.Q k)) :: k) E L):J c (.lp (Un c.P x (c.Q k)) :: k) E L:=fun ok a w ha hs=>un_of (h ok a w ha hs)
end
end Go.LK
