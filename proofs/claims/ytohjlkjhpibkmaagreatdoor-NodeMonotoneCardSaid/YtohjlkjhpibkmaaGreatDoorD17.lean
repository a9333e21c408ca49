/-
  Rules and plain laws that the walks use.
-/
import Derived.Test.YtohjlkjhpibkmaaGreatDoorD16
import Derived.Test.YtohjlkjhpibkmaaGreatDoorD05
import Derived.Test.YtohjlkjhpibkmaaGreatDoorD04
set_option linter.unusedSimpArgs false
set_option linter.unusedVariables false
namespace Go.LK.Si
open Go Go.LK
def keep (n most:Int):Int:=if 0 > (if most < n then most else n) then 0 else (if most < n then most else n)
def mulC (a b:Int):Int:=keep (IntKind.i64.wrap (keep a 2147483647*keep b 2147483647)) 2147483647
def okL (b c:Int):Bool:=decide (1≤b)&&decide (b≤8)&&decide (1≤c)&&decide (c≤16)
def okU (c r:Int):Bool:=decide (1≤c)&&decide (c≤16)&&decide (1≤r)&&decide (r≤1099511627776)
section
variable {b c r:Int} {l:List Sg} {k:Nat} {e:Sg}
theorem okL_iff:okL b c=true↔1≤b∧b≤8∧1≤c∧c≤16:=by simp [okL,and_assoc]
theorem okU_iff:okU c r=true↔1≤c∧c≤16∧1≤r∧r≤1099511627776:=by simp [okU,and_assoc]
theorem okL_no (h:okL b c=false):¬(1≤b∧b≤8∧1≤c∧c≤16):=fun hn=>by rw [okL_iff.2 hn] at h;cases h
theorem okU_no (h:okU c r=false):¬(1≤c∧c≤16∧1≤r∧r≤1099511627776):=fun hn=>by rw [okU_iff.2 hn] at h;cases h
theorem mul_bnd (h:okL b c=true):1≤b*c∧b*c≤128:=by
  obtain ⟨h1,h2,h3,h4⟩:=okL_iff.1 h
  have a1:b*c≤8*c:=Int.mul_le_mul_of_nonneg_right h2 (by omega)
  have a2:1*c≤b*c:=Int.mul_le_mul_of_nonneg_right h1 (by omega)
  omega
def chkN (b c:Int) (l:List Sg) (k:Nat):Bool:=(List.range k).all fun i=>match l[i]? with
  | some s=>decide (Cf.check s.nums s.cl (i:Int) (l.length:Int) (b*c)=0)
  | none=>true
noncomputable def chk (b c r:Int) (l:List Sg):Int:=if okL b c&&okU c r&&decide (1≤l.length)&&chkN b c l l.length then Gr.loops (gOf l) else 10
theorem chkN_zero:chkN b c l 0=true:=rfl
theorem chkN_next (h:chkN b c l k=true) (he:l[k]?=some e) (hc:Cf.check e.nums e.cl (k:Int) (l.length:Int) (b*c)=0):chkN b c l (k+1)=true:=by
  unfold chkN at h ⊢
  rw [List.range_succ,List.all_append,h];simp [he,hc]
theorem chkN_bad (he:l[k]?=some e) (hc:¬Cf.check e.nums e.cl (k:Int) (l.length:Int) (b*c)=0):chkN b c l l.length=false:=by
  unfold chkN
  rw [List.all_eq_false]
  exact ⟨k,List.mem_range.2 (List.getElem?_eq_some_iff.1 he).1,by simp [he,hc]⟩
theorem check_two (n:List Int) (cs:List Cl) (i m v:Int):Cf.check n cs i m v=0∨Cf.check n cs i m v=10:=by
  unfold Cf.check;split
  · unfold Kn.check;split
    · exact .inl rfl
    · exact .inr rfl
  · exact .inr rfl
theorem check_many {n:List Int} {cs:List Cl} {i m v:Int} (h:Cf.check n cs i m v=0):1≤m∧m≤8:=by
  unfold Cf.check at h
  split at h
  · rename_i hc
    simp only [Bool.and_eq_true] at hc
    exact Cf.from_bnd hc.1.1.1
  · cases h
theorem chk_badL (h:okL b c=false):chk b c r l=10:=if_neg (by simp [h])
theorem chk_badU (h:okU c r=false):chk b c r l=10:=if_neg (by simp [h])
theorem chk_none (h:l.length=0):chk b c r l=10:=if_neg (by simp [h])
theorem chk_bad (he:l[k]?=some e) (hc:¬Cf.check e.nums e.cl (k:Int) (l.length:Int) (b*c)=0):chk b c r l=10:=if_neg (by rw [chkN_bad he hc];simp)
theorem chk_bad' (he:l[k]?=some e) (hc:¬Cf.check e.nums e.cl (k:Int) (l.length:Int) (b*c)=0):chk b c r l=Cf.check e.nums e.cl (k:Int) (l.length:Int) (b*c):=by
  rw [chk_bad he hc]
  rcases check_two e.nums e.cl (k:Int) (l.length:Int) (b*c) with h|h
  · exact absurd h hc
  · exact h.symm
theorem chk_all (h1:okL b c=true) (h2:okU c r=true) (h3:1≤l.length) (h4:chkN b c l k=true) (hk:¬k < l.length) (hk2:k≤l.length):chk b c r l=Gr.loops (gOf l):=by
  have:k=l.length:=by omega
  subst this
  exact if_pos (by simp [h1,h2,h3,h4])
end
def fewP (l:List Sg):Prop:=l.length≤10∧∀ s∈l,s.cl.length≤10
theorem few_all {l:List Sg} {k:Nat} (hn:∀ (i:Nat) (s:Sg),i < k→l[i]?=some s→s.cl.length≤10) (hk:¬(k < l.length∧k < 10)) (h:l.length≤10):fewP l:=⟨h,fun s hs=>by
  obtain ⟨i,hi⟩:=List.mem_iff_getElem?.1 hs
  exact hn i s (by have:=(List.getElem?_eq_some_iff.1 hi).1;omega) hi⟩
theorem few_next {l:List Sg} {k:Nat} {e:Sg} (hn:∀ (i:Nat) (s:Sg),i < k→l[i]?=some s→s.cl.length≤10) (he:l[k]?=some e) (h:e.cl.length≤10):∀ (i:Nat) (s:Sg),i < k+1→l[i]?=some s→s.cl.length≤10:=fun i s hi hs=>by
  rcases Nat.lt_or_ge i k with h1|h1
  · exact hn i s h1 hs
  · have:i=k:=by omega
    subst this;rw [he] at hs;cases hs;exact h
def dat (l:List Sg):List (List Int×List Cl):=l.map fun s=>(s.nums,s.cl)
def usd (n k:Nat):List Int×List Cl:=([1,4,10,1,64,20,1,4,10,5,1,3,2],if k+1 < n then [⟨(k:Int)+1,0,6,20⟩] else [])
def usK (n k:Nat):List (List Int×List Cl):=(List.range k).map (usd n)
theorem us_next {l:List Sg} {n k:Nat} {e:Sg} (h:dat l=usK n k) (he:(e.nums,e.cl)=usd n k):dat (l++[e])=usK n (k+1):=by
  unfold usK at h ⊢
  unfold dat at h ⊢
  rw [List.range_succ,List.map_append,List.map_append,h]
  simp [he]
theorem usd_yes {n k:Nat} (h:(k:Int) < (n:Int)-1):usd n k=([1,4,10,1,64,20,1,4,10,5,1,3,2],[⟨(k:Int)+1,0,6,20⟩]):=by unfold usd;rw [if_pos (by omega)]
theorem usd_no {n k:Nat} (h:¬(k:Int) < (n:Int)-1):usd n k=([1,4,10,1,64,20,1,4,10,5,1,3,2],[]):=by unfold usd;rw [if_neg (by omega)]
section
variable {l m:List Sg} {k:Nat} {x y:Sg} {b c r b' c' r':Int} {n n':Nat}
end
theorem sg_into {T:Nat} {V:Value} {u:List Cl} {l:List Sg} {R:List Sp} {e:Sg} (h1:e.cv=V) (h2:e.cl=u):Re (row V T 4 (u.map Cl.cells) :: bun (l.map (Sg.row T)) :: R) (bun ((l++[e]).map (Sg.row T)) :: R):=by
  subst h1;subst h2
  rw [List.map_append];exact Re.into
end Go.LK.Si
namespace Go.LK
open Go
structure Fr where
  kind:Int
  qi:Int
  qf:Int
  qt:Int
  ql:Int
  qd:Int
  qb:Int
  ri:Int
  rf:Int
  rt:Int
  rc:Int
  rh:Int
  re:Int
  rr:Int
  pt:Int
  pv:Int
  p0:Int
  p1:Int
  p2:Int
  p3:Int
  p4:Int
  p5:Int
  p6:Int
def Fr.cells (f:Fr):List Value:=[.int .i64 f.kind,.int .i64 f.qi,.int .i64 f.qf,.int .i64 f.qt,.int .i64 f.ql,.int .i64 f.qd,.int .i64 f.qb,.int .i64 f.ri,.int .i64 f.rf,.int .i64 f.rt,.int .i64 f.rc,.int .i64 f.rh,.int .i64 f.re,.int .i64 f.rr,.int .i64 f.pt,.int .i64 f.pv,.int .i64 f.p0,.int .i64 f.p1,.int .i64 f.p2,.int .i64 f.p3,.int .i64 f.p4,.int .i64 f.p5,.int .i64 f.p6]
theorem Fr.one {l:List Fr}:∀ a∈l,(Fr.cells a).all Value.oneCell'=true:=fun _ _=>rfl
theorem Tri.frame {P:Program} {f:FuncId} {args:Array Value} {Ro L R:List Sp} {post:Value→List Sp→Prop} (h:Tri P f args Ro L post):Tri P f args Ro (L++R) (fun v L'=>∃ L1,L'=L1++R∧post v L1):=fun w hro hst=>by
  refine (h w (fun A hA=>⟨(hro A hA).1,fun k hk hk'=>(hro A hA).2 k hk (by rw [feet_append];exact List.mem_append_left _ hk')⟩) hst.own).mono ?_
  rintro e w' ⟨v,L1,rfl,hp,hs⟩
  exact ⟨v,L1++R,rfl,⟨L1,rfl,hp⟩,hst.back hs⟩
def RB (As Ro1:List Sp):Prop:=∀ A1∈Ro1,∃ A∈As,∀ w,A.holds w→A1.holds w∧∀ k∈A1.foot,k∈A.foot
theorem RB.nil {As:List Sp}:RB As []:=fun _ h=>by cases h
theorem RB.of {As R:List Sp} {A B:Sp} (i:Nat) (h:As[i]?=some A) (hc:∀ w,A.holds w→B.holds w∧∀ k∈B.foot,k∈A.foot) (r:RB As R):RB As (B :: R):=fun A1 h1=>by
  rcases List.mem_cons.1 h1 with rfl|h1
  · exact ⟨A,List.mem_of_getElem? h,hc⟩
  · exact r A1 h1
theorem RB.at {As R:List Sp} {A:Sp} (i:Nat) (h:As[i]?=some A) (r:RB As R):RB As (A :: R):=r.of i h fun _ h=>⟨h,fun _ hk=>hk⟩
theorem Tri.roB {P:Program} {f:FuncId} {args:Array Value} {As Ro1 L:List Sp} {post:Value→List Sp→Prop} (h:Tri P f args Ro1 L post) (r:RB As Ro1):Tri P f args [bun As] L post:=h.roFrom fun A1 hA1=>by
  obtain ⟨A,hA,hc⟩:=r A1 hA1
  refine ⟨bun As,by simp,fun w hw=>?_⟩
  obtain ⟨h1,h2⟩:=bun_at hA w hw
  obtain ⟨h3,h4⟩:=hc w h1
  exact ⟨h3,fun k hk=>h2 k (h4 k hk)⟩
theorem Re.app {As Bs R:List Sp} (h:Re As Bs):Re (As++R) (Bs++R):=fun _ _ _ hs=>hs.back (h _ _ _ hs.own)
theorem Re.hd1 {A B:Sp} {R:List Sp} (h:Re [A] [B]):Re (A :: R) (B :: R):=Re.app h
theorem Re.hd2 {A A2 B:Sp} {R:List Sp} (h:Re [A,A2] [B]):Re (A :: A2 :: R) (B :: R):=Re.app h
theorem Re.none {L:List Sp}:Re L [bun []]:=Re.trans (Re.sn [] rfl) Re.new
namespace Nd
structure Kt where
  k0:Int
  k1:Int
  k2:Int
  k3:Int
  k4:Int
  k5:Int
  k6:Int
  thr:Int
  ep:Int
  way:Int
  held:Int
  tier:Int
  dheld:Int
  lm:Int
  ls:Int
  lw:Int
  hl:List Int
structure Nc where
  n:Nat
  c:Nat
  u:Nat
  d:Nat
  h:Nat
  l:Nat
  sn:Nat
  sb:Nat
  q:Nat
  p:Nat
  qb:Nat
  s:Nat
  jb:Nat
  w:Nat
  tb:Nat
  bu:Int
  cl:Int
  ro:Int
  key:Nat
  sv:Value
  svs:List Sg
  self:Int
  wk:Int
  qn:Int
  win:Int
  tiers:Int
  se:Int
  ttl:Int
  f0:Int
  f1:Int
  f2:Int
  f3:Int
  f4:Int
  f5:Int
  f6:Int
  cv:Value
  calls:List Cl
  lev:Int
def nC (N:Nc) (now ver many calls:Int):List Value:=[.pointer (some ⟨N.c,0,none⟩),.int .i64 N.bu,.int .i64 N.cl,.int .i64 N.ro,.int .u64 (Nat.cast N.key:Int),N.sv,.int .i64 N.self,.int .i64 N.wk,.int .i64 N.qn,.int .i64 N.win,.int .i64 N.tiers,.int .i64 N.se,.int .i64 N.ttl,.int .i64 N.f0,.int .i64 N.f1,.int .i64 N.f2,.int .i64 N.f3,.int .i64 N.f4,.int .i64 N.f5,.int .i64 N.f6,N.cv,.int .i64 now,.int .i64 ver,.int .i64 many,.int .i64 calls,.pointer (some ⟨N.sn,0,none⟩),.pointer (some ⟨N.q,0,none⟩),.pointer (some ⟨N.s,0,none⟩),.map (some N.jb),.pointer (some ⟨N.w,0,none⟩),.pointer (some ⟨N.tb,0,none⟩)]
structure Nc.Ok (N:Nc):Prop where
  hv0:1≤N.lev
  hv1:N.lev≤128
  ht0:0≤N.tiers
  ht2:N.tiers≤7
  hw0:1≤N.wk
  hw1:N.wk≤16
  hq0:1≤N.qn
  hq1:N.qn≤64
  hi0:1≤N.win
  hi1:N.win≤64
  hs0:0≤N.se
  hs1:N.se≤256
  hf0:0≤N.self
  hf1:N.self < (N.svs.length:Int)
  hf2:N.svs.length≤8
  hc:N.calls.length≤6
  hsv:N.sv.oneCell'=true
  hcv:N.cv.oneCell'=true
  hlev:N.lev=Si.mulC N.bu N.cl
structure Kt.Ok (N:Nc) (k:Kt):Prop where
  hn:k.hl.length=128
  hp0:0≤k.thr
  hp1:k.thr≤N.lev
  he0:0≤k.ep
  he1:k.ep≤4294967295
  hw0:-1≤k.way
  hw1:k.way≤1
  ht0:0≤k.tier
  ht1:k.tier≤N.tiers
structure Sn where
  R:Value
  f:Int
  n:Int
  ring:List Int
  m:List (Int×Int)
structure Sn.Ok (s:Sn):Prop where
  hR:s.ring.length≤256
  hf0:0≤s.f
  hfl:s.f < s.ring.length∨s.ring.length=0∧s.f=0
  hn0:0≤s.n
  hnl:s.n≤s.ring.length
structure Qu where
  V:Value
  t:List Im
  m:List (Int×Int)
structure Qu.Ok (N:Nc) (q:Qu):Prop where
  hk:AtOk q.t q.m
  hl:(q.t.length:Int)≤N.qn
structure Jb where
  x:Im
  ph:Int
  v:Value
  needs:List Int
structure Jb.Fit (j:Jb):Prop where
  ph:j.ph=1∨j.ph=2
  nl:j.needs.length≤100
  one:j.v.oneCell'=true
  up:Go.LK.Jb.Up j.needs
def jobV (j:Jb):Value:=.agg #[.int .i64 j.x.id,.int .i64 j.x.level,.int .i64 j.x.from_,.int .i64 j.x.deadline,.int .i64 j.x.budget,.int .i64 j.x.since,.int .i64 j.x.seq,.int .i64 j.ph,j.v]
def nRow (T:Nat) (p:Int×Jb):Sp:=row p.2.v T 1 (p.2.needs.map encZ)
def nRows (T:Nat) (m:List (Int×Jb)):List Sp:=m.map (nRow T)
def jNew (x:Im):Jb:=⟨x,1,.slice none 0 0,[]⟩
structure JOk (m:List (Int×Jb)) (js:List Im):Prop where
  nd:(js.map Im.id).Nodup
  kd:(keysI m).Nodup
  job:∀ id j,getI m id=some j→j.x∈js∧j.x.id=id∧j.Fit
  has:∀ x∈js,∃ j,getI m x.id=some j∧j.x=x
structure In (N:Nc) (ps:Pl) (m:List (Int×Jb)) (wl:List Pr) (ws:Ws):Prop where
  hl:ps.length=16
  hb:Beyond ps N.wk.toNat
  j:JOk m (its ps)
  r:Wt.Rep wl ws
  w:∀ p∈wl,(getI m p.job).isSome=true
  wn:wl.length≤100000
def endE (now self:Int) (p:Im×Int):Ev:=⟨4,now,self,p.1.id,p.2,p.1.level,0⟩
def endF (self:Int) (k:Kt) (p:Im×Int):Fr:=⟨2,0,0,0,0,0,0,p.1.id,self,p.1.from_,p.2,k.thr,k.ep,k.tier,0,0,0,0,0,0,0,0,0⟩
def staE (now self:Int) (x:Im):Ev:=⟨3,now,self,x.id,0,Sh.left now x.since,x.deadline⟩
section
variable {m:List (Int×Jb)} {js js':List Im} {x y:Im} {id:Int} {j j':Jb}
theorem putI_nodup {α:Type} {m:List (Int×α)} {k:Int} {v:α} (h:(keysI m).Nodup):(keysI (putI m k v)).Nodup:=by
  cases hg:getI m k with
  | none =>
    rw [putI_new hg]
    have hn:=getI_none.1 hg
    unfold keysI at hn h ⊢
    rw [List.map_append,List.nodup_append]
    refine ⟨h,by simp,fun a ha b hb=>?_⟩
    simp at hb;subst hb
    exact fun e=>hn (e ▸ ha)
  | some v0 =>
    obtain ⟨A,B,h1,h2,_⟩:=getI_split (u:=v) hg h
    rw [h2];rw [h1] at h
    unfold keysI at h ⊢
    simpa using h
theorem delI_nodup {α:Type} {m:List (Int×α)} {k:Int} (h:(keysI m).Nodup):(keysI (delI m k)).Nodup:=by
  unfold keysI delI at *
  exact h.sublist (List.filter_sublist.map _)
theorem JOk.perm (h:JOk m js) (hp:js.Perm js'):JOk m js' :=
  ⟨(hp.map _).nodup_iff.1 h.nd,h.kd,fun id j hg=>by obtain ⟨h1,h2⟩:=h.job id j hg;exact ⟨hp.mem_iff.1 h1,h2⟩,fun x hx=>h.has x (hp.mem_iff.2 hx)⟩
theorem JOk.ids (h:JOk m js) (hx:x∈js) (hy:y∈js) (he:x.id=y.id):x=y:=by
  obtain ⟨j,h1,h2⟩:=h.has x hx
  obtain ⟨i,h3,h4⟩:=h.has y hy
  rw [he,h3] at h1;cases h1
  exact h2.symm.trans h4
theorem JOk.no (h:JOk m js):getI m id=none↔∀ y∈js,y.id≠id:=by
  constructor
  · intro hg y hy he
    obtain ⟨j,h1,_⟩:=h.has y hy
    rw [he,hg] at h1;cases h1
  · intro hn
    cases hg:getI m id with
    | none=>rfl
    | some j=>obtain ⟨h1,h2,_⟩:=h.job id j hg;exact absurd h2 (hn _ h1)
theorem JOk.put (h:JOk m js) (hn:∀ y∈js,y.id≠x.id):JOk (putI m x.id (jNew x)) (x :: js):=by
  refine ⟨?_,putI_nodup h.kd,fun id j hg=>?_,fun y hy=>?_⟩
  · rw [List.map_cons,List.nodup_cons]
    refine ⟨fun hm=>?_,h.nd⟩
    obtain ⟨y,hy,he⟩:=List.mem_map.1 hm
    exact hn y hy he
  · rw [getI_putI] at hg
    split at hg
    · cases hg;exact ⟨List.mem_cons_self,by assumption,.inl rfl,by simp [jNew],rfl,by simp [jNew,Go.LK.Jb.Up]⟩
    · obtain ⟨h1,h2⟩:=h.job id j hg
      exact ⟨List.mem_cons_of_mem _ h1,h2⟩
  · rw [getI_putI]
    rcases List.mem_cons.1 hy with rfl|hy
    · exact ⟨jNew y,by rw [if_pos rfl],rfl⟩
    · rw [if_neg fun e=>hn y hy e.symm];exact h.has y hy
theorem JOk.upd (h:JOk m js) (hg:getI m id=some j) (hx:j'.x=j.x) (hp:j'.Fit):JOk (putI m id j') js:=by
  obtain ⟨h1,h2,_⟩:=h.job id j hg
  refine ⟨h.nd,putI_nodup h.kd,fun i q hq=>?_,fun y hy=>?_⟩
  · rw [getI_putI] at hq
    split at hq
    · cases hq;subst id;exact ⟨hx ▸ h1,hx ▸ by assumption,hp⟩
    · exact h.job i q hq
  · rw [getI_putI]
    split
    · refine ⟨j',rfl,hx.trans (h.ids h1 hy (by rw [h2];assumption))⟩
    · exact h.has y hy
theorem JOk.one (h:JOk m js) (hg:getI m id=some j):j.v.oneCell'=true:=(h.job id j hg).2.2.one
theorem JOk.del (h:JOk m js) (hp:js.Perm (y :: js')):JOk (delI m y.id) js':=by
  have h':=h.perm hp
  have hn:=List.nodup_cons.1 (List.map_cons .. ▸ h'.nd:(y.id :: js'.map Im.id).Nodup)
  refine ⟨hn.2,delI_nodup h.kd,fun id j hg=>?_,fun x hx=>?_⟩
  · rw [getI_delI] at hg
    split at hg
    · cases hg
    · obtain ⟨h1,h2,h3⟩:=h'.job id j hg
      rcases List.mem_cons.1 h1 with h4|h4
      · rw [h4] at h2;exact absurd h2 (by assumption)
      · exact ⟨h4,h2,h3⟩
  · rw [getI_delI,if_neg fun e=>hn.1 (List.mem_map.2 ⟨x,hx,e.symm⟩)]
    exact h'.has x (List.mem_cons_of_mem _ hx)
theorem nRows_del {T:Nat}:Re [bun (nRows T m)] [bun (nRows T (delI m id))]:=fun w0 M w hs=>by
  have h1:=St.bun_iff.1 hs
  have h2:∀ l:List (Int×Jb),∃ is:List Nat,is.Nodup∧(∀ i∈is,i < l.length)∧LK.sel (nRows T l) is=nRows T (delI l id):=by
    intro l
    induction l with
    | nil=>exact ⟨[],by simp,by simp,rfl⟩
    | cons p l ih =>
      obtain ⟨is,h3,h4,h5⟩:=ih
      have h6:LK.sel (nRow T p :: nRows T l) (is.map (·+1))=LK.sel (nRows T l) is:=by
        clear h3 h5
        induction is with
        | nil=>rfl
        | cons i is ih=>simp only [List.map_cons,LK.sel,List.filterMap_cons,List.getElem?_cons_succ] at ih ⊢;rw [ih fun j hj=>h4 j (List.mem_cons_of_mem _ hj)]
      have hd:delI (p :: l) id=if p.1=id then delI l id else p :: delI l id:=by
        unfold delI;rw [List.filter_cons];by_cases h:p.1=id<;>simp [h]
      by_cases hp:p.1=id
      · refine ⟨is.map (·+1),?_,by simpa using h4,?_⟩
        · exact List.pairwise_map.2 (h3.imp fun h e=>h (by simpa using e))
        · rw [hd,if_pos hp];exact h6.trans h5
      · refine ⟨0 :: is.map (·+1),?_,?_,?_⟩
        · refine List.nodup_cons.2 ⟨by simp,List.pairwise_map.2 (h3.imp fun h e=>h (by simpa using e))⟩
        · intro i hi
          rcases List.mem_cons.1 hi with rfl|hi
          · simp
          · obtain ⟨q,hq,rfl⟩:=List.mem_map.1 hi
            have:=h4 q hq;simp;omega
        · rw [hd,if_neg hp]
          show nRow T p :: LK.sel (nRow T p :: nRows T l) (is.map (·+1))=nRow T p :: nRows T (delI l id)
          rw [h6,h5]
  obtain ⟨is,h3,_,h5⟩:=h2 m
  rw [List.append_nil] at h1
  exact St.bun_iff.2 (by rw [List.append_nil,←h5];exact h1.sel h3)
theorem nRows_new {T:Nat} (h:getI m id=none) (j:Jb):Re [row j.v T 1 (j.needs.map encZ),bun (nRows T m)] [bun (nRows T (putI m id j))]:=by
  refine bun_more ?_
  rw [putI_new h]
  unfold nRows
  rw [List.map_append]
  exact List.perm_append_singleton _ _
theorem nRows_upd {T:Nat} (hk:(keysI m).Nodup) (h:getI m id=some j) (j':Jb):Re [row j'.v T 1 (j'.needs.map encZ),bun (nRows T m)] [bun (nRows T (putI m id j'))]:=by
  obtain ⟨A,B,h1,h2,_⟩:=getI_split (u:=j') h hk
  refine Re.trans (Re.cons (bun_less (A:=nRow T (id,j)) (Bs:=nRows T (A++B)) ?_)) (bun_more ?_)
  · rw [h1];unfold nRows
    rw [List.map_append,List.map_append,List.map_cons];exact List.perm_middle
  · rw [h2];unfold nRows
    rw [List.map_append,List.map_append,List.map_cons];exact List.perm_middle
theorem nRows_at {T:Nat} (h:getI m id=some j):row j.v T 1 (j.needs.map encZ)∈nRows T m:=List.mem_map.2 ⟨(id,j),getI_some h,rfl⟩
end
section
variable {N:Nc} {ps ps':Pl} {m:List (Int×Jb)} {wl:List Pr} {ws ws':Ws} {x y:Im}
theorem In.over (h:In N ps m wl ws) (hp:(its ps).Perm (y :: its ps')) (hl:ps'.length=16) (hb:Beyond ps' N.wk.toNat) (hr:Wt.Rep (Wt.drop wl y.id) ws'):In N ps' (delI m y.id) (Wt.drop wl y.id) ws':=by
  refine ⟨hl,hb,h.j.del hp,hr,fun p hpm=>?_,Nat.le_trans Wt.drop_len h.wn⟩
  unfold Wt.drop at hpm
  obtain ⟨h1,h2⟩:=List.mem_filter.1 hpm
  rw [getI_delI,if_neg (by have:=of_decide_eq_true h2;exact fun e=>this e.symm)]
  exact h.w p h1
theorem In.start (h:In N ps m wl ws) (hp:(its ps').Perm (x :: its ps)) (hn:∀ y∈its ps,y.id≠x.id) (hl:ps'.length=16) (hb:Beyond ps' N.wk.toNat):In N ps' (putI m x.id (jNew x)) wl ws:=by
  refine ⟨hl,hb,(h.j.put hn).perm hp.symm,h.r,fun p hpm=>?_,h.wn⟩
  rw [getI_putI]
  split
  · rfl
  · exact h.w p hpm
end
end Nd
end Go.LK
namespace Go.LK.Nd
open Go Go.LK
section
variable {N:Nc} {k k':Kt}
structure Kt.Same (k k':Kt):Prop where
  thr:k'.thr=k.thr
  ep:k'.ep=k.ep
  tier:k'.tier=k.tier
theorem Kt.Same.of (h1:k'.thr=k.thr) (h2:k'.ep=k.ep) (h3:k'.tier=k.tier):k.Same k':=⟨h1,h2,h3⟩
theorem Kt.Same.refl (k:Kt):k.Same k:=⟨rfl,rfl,rfl⟩
theorem Kt.Same.trans {k2:Kt} (h:k.Same k') (h':k'.Same k2):k.Same k2:=⟨h'.thr.trans h.thr,h'.ep.trans h.ep,h'.tier.trans h.tier⟩
def Kt.Moved (k k':Kt):Prop:=(k'.thr=k.thr∧k'.ep=k.ep)∨(k'.thr≠k.thr∧k'.ep=Sh.keep (k.ep+1) 4294967295)
theorem Kt.Moved.of {b:Bool} {t2 e2:Int} (h:(b=false∧t2=k.thr∧e2=k.ep)∨(b=true∧t2≠k.thr∧e2=Sh.keep (k.ep+1) 4294967295)) (h1:k'.thr=t2:=by rfl) (h2:k'.ep=e2:=by rfl):k.Moved k':=by
  subst h1;subst h2
  rcases h with ⟨_,h1,h2⟩|⟨_,h1,h2⟩
  · exact .inl ⟨h1,h2⟩
  · exact .inr ⟨h1,h2⟩
theorem moved_ep {b:Bool} {t2 e2 thr ep:Int} (h:(b=false∧t2=thr∧e2=ep)∨(b=true∧t2≠thr∧e2=Sh.keep (ep+1) 4294967295)) (h0:0≤ep) (h1:ep≤4294967295):0≤e2∧e2≤4294967295:=by
  rcases h with ⟨_,_,rfl⟩|⟨_,_,rfl⟩
  · exact ⟨h0,h1⟩
  · exact Sh.keep_bnd _ (by decide)
end
end Go.LK.Nd
namespace Go.LK.Nd
open Go Go.LK
section
variable {ps:Pl} {n:Nat} {x:Im}
theorem free_at (hl:n≤ps.length) (h:(its (ps.take n)).length < n):∃ k:Nat,k < n∧ps[k]?=some none:=by
  induction n with
  | zero=>omega
  | succ n ih =>
    obtain ⟨o,ho⟩:∃ o,ps[n]?=some o:=⟨_,List.getElem?_eq_getElem (by omega)⟩
    cases o with
    | none=>exact ⟨n,by omega,ho⟩
    | some q =>
      obtain ⟨g,y⟩:=q
      rw [its_some ho,List.length_append] at h
      obtain ⟨k,hk,hp⟩:=ih (by omega) (by simpa using h)
      exact ⟨k,by omega,hp⟩
theorem no_at {m:Int} {id:Int} (h:∀ y∈its ps,y.id≠id):∀ (j g:Nat) (y:Im),(j:Int) < m→ps[j]?=some (some (g,y))→y.id≠id:=fun _ _ _ _ hp=>h _ (its_mem hp)
theorem yes_at {m:Int} (hb:Beyond ps m.toNat) (h0:0≤m) (hx:x∈its ps):∃ (j g:Nat) (y:Im),(j:Int) < m∧ps[j]?=some (some (g,y))∧y.id=x.id:=by
  obtain ⟨k,g,hk⟩:=its_at hx
  refine ⟨k,g,x,?_,hk,rfl⟩
  rcases Nat.lt_or_ge k m.toNat with h|h
  · omega
  · exact absurd (hb k _ h hk) (by simp)
theorem its_new:its (List.replicate 16 none)=[]:=rfl
end
end Go.LK.Nd
namespace Go.LK
structure Stp where
  to:Int
  code:Int
  dl:Int
  bu:Int
  rq:Bool
def Stp.cells (x:Stp):List Value:=[.int .i64 x.to,.int .i64 x.code,.int .i64 x.dl,.int .i64 x.bu,.bool x.rq]
theorem Stp.one {l:List Stp}:∀ a∈l,(Stp.cells a).all Value.oneCell'=true:=fun _ _=>rfl
structure Lok where
  code:Int
  f:Value
  ok:f.oneCell'=true
def Lok.cells (x:Lok):List Value:=[.int .i64 x.code,x.f]
end Go.LK
namespace Go.LK.Nd
open Go Go.LK
def cutT (d:Sh.Ts) (ttl to n now:Int):Bool:=(Sh.get d ttl to now).2&&!Sh.passes n (Sh.get d ttl to now).1.thr
def stepF (c:Cl) (tier lvl now dl:Int) (cut:Bool):Stp :=
  if (if 0 > tier then 0 else tier) < c.tier then ⟨c.to,11,0,0,decide (c.tier=0)⟩
  else if (callS now dl c.weight c.most).2.2=false then ⟨c.to,9,0,0,decide (c.tier=0)⟩
  else if cut=true then ⟨c.to,8,0,0,decide (c.tier=0)⟩
  else ⟨c.to,0,(callS now dl c.weight c.most).1,(callS now dl c.weight c.most).2.1,decide (c.tier=0)⟩
theorem stepF_code (c:Cl) (tier lvl now dl:Int) (cut:Bool):(stepF c tier lvl now dl cut).code=0∨(stepF c tier lvl now dl cut).code=8∨(stepF c tier lvl now dl cut).code=9∨(stepF c tier lvl now dl cut).code=11:=by
  unfold stepF;(repeat' split)<;>simp
def planS (f:Cl→Stp) (l:List Cl):Int×List Stp:=match l.find? (fun c=>decide ((f c).code≠0)&&(f c).rq) with
  | some c=>((f c).code,[])
  | none=>(0,l.map f)
section
variable {f:Cl→Stp} {l:List Cl} {k:Nat} {c:Cl}
def NoBad (f:Cl→Stp) (l:List Cl) (k:Nat):Prop:=∀ (j:Nat) (x:Cl),j < k→l[j]?=some x→(decide ((f x).code≠0)&&(f x).rq)=false
theorem NoBad.zero:NoBad f l 0:=fun j x h=>by omega
theorem NoBad.next (h:NoBad f l k) (hc:l[k]?=some c) (hf:(decide ((f c).code≠0)&&(f c).rq)=false):NoBad f l (k+1):=fun j x hj hx=>by
  rcases Nat.lt_or_ge j k with h1|h1
  · exact h j x h1 hx
  · have:j=k:=by omega
    subst this;rw [hc] at hx;cases hx;exact hf
theorem planS_hit (h:NoBad f l k) (hc:l[k]?=some c) (hf:(decide ((f c).code≠0)&&(f c).rq)=true):planS f l=((f c).code,[]):=by
  have h1:l.find? (fun c=>decide ((f c).code≠0)&&(f c).rq)=some c:=by
    rw [List.find?_eq_some_iff_getElem]
    obtain ⟨hk,hk2⟩:=List.getElem?_eq_some_iff.1 hc
    refine ⟨hf,k,hk,hk2,fun j hj=>?_⟩
    rw [h j _ hj (List.getElem?_eq_getElem (by omega))];rfl
  unfold planS;rw [h1]
theorem planS_all (h:NoBad f l k) (hk:¬k < l.length):planS f l=(0,l.map f):=by
  have h1:l.find? (fun c=>decide ((f c).code≠0)&&(f c).rq)=none:=by
    rw [List.find?_eq_none]
    intro x hx
    obtain ⟨j,hj⟩:=List.getElem?_of_mem hx
    rw [h j x (by have:=(List.getElem?_eq_some_iff.1 hj).1;omega) hj];decide
  unfold planS;rw [h1]
theorem steps_next (hc:l[k]?=some c):(l.take (k+1)).map f=(l.take k).map f++[f c]:=by rw [List.take_add_one,hc];simp
theorem steps_all (hk:¬k < l.length):(l.take k).map f=l.map f:=by rw [List.take_of_length_le (by omega)]
end
def LineR (N:Nc) (now:Int) (k:Kt) (x:Im) (t t':List Im) (es es':List Ev) (fs fs':List Fr):Prop :=
  ((t.length:Int) < N.qn∧t'.Perm (x :: t)∧es'=es∧fs'=fs) ∨
  (¬(t.length:Int) < N.qn∧∃ y,(y :: t').Perm (x :: t)∧(∀ z∈t',z.level≤y.level)∧es'=es++[endE now N.self (y,5)]∧fs'=fs++[endF N.self k (y,5)])
section
variable {N:Nc} {now:Int} {k:Kt} {x y z:Im} {t t':List Im} {es es':List Ev} {fs fs':List Fr}
theorem LineR.len (h:LineR N now k x t t' es es' fs fs'):es'.length≤es.length+1∧fs'.length≤fs.length+1:=by
  rcases h with ⟨_,_,rfl,rfl⟩|⟨_,y,_,_,rfl,rfl⟩<;>simp
theorem LineR.ids (h:LineR N now k x t t' es es' fs fs') {js:List Im} (hn:((t++js).map Im.id).Nodup) (hx:∀ y∈t++js,y.id≠x.id):((t'++js).map Im.id).Nodup:=by
  have h1:(((x :: t)++js).map Im.id).Nodup:=by
    rw [List.cons_append,List.map_cons,List.nodup_cons]
    exact ⟨fun hm=>by obtain ⟨y,hy,he⟩:=List.mem_map.1 hm;exact hx y hy he,hn⟩
  rcases h with ⟨_,hp,_⟩|⟨_,y,hp,_⟩
  · exact ((hp.append_right js).map Im.id).nodup_iff.2 h1
  · have h2:=((hp.append_right js).map Im.id).nodup_iff.2 h1
    rw [List.cons_append,List.map_cons,List.nodup_cons] at h2
    exact h2.2
end
structure OnR (N:Nc) (now:Int) (t t' js js':List Im) (m m':List (Int×Jb)) (es es':List Ev) (S:List Im):Prop where
  t:t.Perm (S++t')
  p:js'.Perm (S++js)
  e:es'=es++S.map (staE now N.self)
  j:∀ y∈S,getI m' y.id=some (jNew y)
  o:∀ id,(∀ y∈S,y.id≠id)→getI m' id=getI m id
def Full (N:Nc) (t js:List Im):Prop:=t=[]∨(js.length:Int)=N.wk
section
variable {N:Nc} {now:Int} {t t1 t2 js js1 js2 S:List Im} {m m1:List (Int×Jb)} {es es1:List Ev} {x:Im}
theorem OnR.zero:OnR N now t t js js m m es es []:=⟨.refl _,.refl _,by simp,by simp,fun _ _=>rfl⟩
theorem OnR.all (h:OnR N now t t1 js js1 m m1 es es1 S):(t1++js1).Perm (t++js):=by
  refine (List.Perm.append_left t1 h.p).trans ?_
  refine List.Perm.trans ?_ (List.Perm.append_right js h.t).symm
  rw [←List.append_assoc]
  exact List.Perm.append_right js List.perm_append_comm
theorem OnR.fresh (h:OnR N now t t1 js js1 m m1 es es1 S) (hn:((t++js).map Im.id).Nodup) (hx:t1.Perm (x :: t2)):∀ y∈js1,y.id≠x.id:=by
  intro y hy he
  have h1:=(h.all.map Im.id).nodup_iff.2 hn
  rw [List.map_append,List.nodup_append] at h1
  exact h1.2.2 x.id (List.mem_map.2 ⟨x,hx.mem_iff.2 List.mem_cons_self,rfl⟩) y.id (List.mem_map.2 ⟨y,hy,rfl⟩) he.symm
theorem OnR.next (h:OnR N now t t1 js js1 m m1 es es1 S) (hn:((t++js).map Im.id).Nodup) (hx:t1.Perm (x :: t2)) (hp:js2.Perm (x :: js1)):OnR N now t t2 js js2 m (putI m1 x.id (jNew x)) es (es1++[staE now N.self x]) (S++[x]):=by
  refine ⟨?_,?_,?_,fun y hy=>?_,fun id hid=>?_⟩
  · exact h.t.trans (by rw [List.append_assoc];exact List.Perm.append_left S hx)
  · refine hp.trans ((List.Perm.cons x h.p).trans ?_)
    rw [List.append_assoc];exact (List.perm_middle (a:=x) (l₁:=S) (l₂:=js)).symm
  · rw [h.e,List.map_append,List.append_assoc];rfl
  · rw [getI_putI]
    rcases List.mem_append.1 hy with hy|hy
    · split
      · rename_i he
        have:=h.fresh hn hx y (h.p.mem_iff.2 (List.mem_append_left _ hy))
        exact absurd he.symm this
      · exact h.j y hy
    · obtain rfl:=List.mem_singleton.1 hy
      rw [if_pos rfl]
  · rw [getI_putI,if_neg (hid x (by simp))]
    exact h.o id fun y hy=>hid y (List.mem_append_left _ hy)
theorem OnR.len (h:OnR N now t t1 js js1 m m1 es es1 S):es1.length=es.length+S.length:=by rw [h.e];simp
theorem OnR.num (h:OnR N now t t1 js js1 m m1 es es1 S):S.length≤js1.length:=by have:=h.p.length_eq;rw [List.length_append] at this;omega
theorem its_le {ps:Pl} {n:Nat} (hb:Beyond ps n):(its ps).length≤n:=by rw [←its_all hb];exact its_len
end
structure LateR (N:Nc) (now:Int) (k:Kt) (js js':List Im) (m m':List (Int×Jb)) (es es':List Ev) (fs fs':List Fr) (D:List Im):Prop where
  p:js.Perm (D++js')
  d:∀ y∈D,y.deadline≤now
  e:es'=es++D.map fun y=>endE now N.self (y,6)
  f:fs'=fs++D.map fun y=>endF N.self k (y,6)
  o:∀ id,(∀ y∈D,y.id≠id)→getI m' id=getI m id
section
variable {N:Nc} {now:Int} {k:Kt} {js js1 js2 D:List Im} {m m1:List (Int×Jb)} {es es1:List Ev} {fs fs1:List Fr} {x:Im} {i:Nat}
theorem LateR.zero:LateR N now k js js m m es es fs fs []:=⟨.refl _,by simp,by simp,by simp,fun _ _=>rfl⟩
theorem LateR.next (h:LateR N now k js js1 m m1 es es1 fs fs1 D) (hp:js1.Perm (x :: js2)) (hd:x.deadline≤now):LateR N now k js js2 m (delI m1 x.id) es (es1++[endE now N.self (x,6)]) fs (fs1++[endF N.self k (x,6)]) (D++[x]):=by
  refine ⟨?_,fun y hy=>?_,?_,?_,fun id hid=>?_⟩
  · exact h.p.trans (by rw [List.append_assoc];exact List.Perm.append_left D hp)
  · rcases List.mem_append.1 hy with hy|hy
    · exact h.d y hy
    · obtain rfl:=List.mem_singleton.1 hy;exact hd
  · rw [h.e,List.map_append,List.append_assoc];rfl
  · rw [h.f,List.map_append,List.append_assoc];rfl
  · rw [getI_delI,if_neg (hid x (by simp))]
    exact h.o id fun y hy=>hid y (List.mem_append_left _ hy)
theorem LateR.len (h:LateR N now k js js1 m m1 es es1 fs fs1 D):es1.length=es.length+D.length∧fs1.length=fs.length+D.length:=by rw [h.e,h.f];simp
theorem LateR.num (h:LateR N now k js js1 m m1 es es1 fs fs1 D):D.length≤js.length:=by have:=h.p.length_eq;rw [List.length_append] at this;omega
def Seen (now:Int) (o D:List Im) (i:Nat):Prop:=D=(o.take i).filter fun y=>decide (y.deadline≤now)
theorem Seen.zero {o:List Im}:Seen now o [] 0:=by simp [Seen]
theorem Seen.go {o:List Im} (h:Seen now o D i) (hx:o[i]?=some x) (hd:x.deadline≤now):Seen now o (D++[x]) (i+1):=by
  unfold Seen at h ⊢;rw [List.take_add_one,hx,List.filter_append,←h];simp [hd]
theorem Seen.stay {o:List Im} (h:Seen now o D i) (hx:o[i]?=some x) (hd:¬x.deadline≤now):Seen now o D (i+1):=by
  unfold Seen at h ⊢;rw [List.take_add_one,hx,List.filter_append,←h];simp [hd]
theorem Seen.here {o:List Im} (h:Seen now o D i) (hn:(o.map Im.id).Nodup) (hp:o.Perm (D++js1)) (hx:o[i]?=some x):x∈js1:=by
  have hm:x∈D++js1:=hp.mem_iff.1 (List.mem_of_getElem? hx)
  rcases List.mem_append.1 hm with h1|h1
  · exfalso
    rw [h] at h1
    obtain ⟨j,hj⟩:=List.getElem?_of_mem (List.mem_filter.1 h1).1
    rw [List.getElem?_take] at hj
    split at hj
    · have h2:(o.map Im.id)[j]?=some x.id:=by rw [List.getElem?_map,hj];rfl
      have h3:(o.map Im.id)[i]?=some x.id:=by rw [List.getElem?_map,hx];rfl
      obtain ⟨hj1,hj2⟩:=List.getElem?_eq_some_iff.1 h2
      obtain ⟨hi1,hi2⟩:=List.getElem?_eq_some_iff.1 h3
      have:=(List.getElem_inj hn).1 (hj2.trans hi2.symm)
      omega
    · cases hj
  · exact h1
theorem Seen.left {o:List Im} (h:Seen now o D i) (hn:(o.map Im.id).Nodup) (hp:o.Perm (D++js1)) (hi:¬i < o.length):∀ y∈js1,now < y.deadline:=by
  intro y hy
  rcases Decidable.em (now < y.deadline) with h1|h1
  · exact h1
  · exfalso
    replace h1:y.deadline≤now:=by omega
    have hyo:y∈o:=hp.mem_iff.2 (List.mem_append_right _ hy)
    have hD:y∈D:=by rw [h,List.take_of_length_le (by omega)];exact List.mem_filter.2 ⟨hyo,by simpa using h1⟩
    have h2:=(hp.map Im.id).nodup_iff.1 hn
    rw [List.map_append,List.nodup_append] at h2
    exact h2.2.2 y.id (List.mem_map.2 ⟨y,hD,rfl⟩) y.id (List.mem_map.2 ⟨y,hy,rfl⟩) rfl
end
end Go.LK.Nd
