/-
  Rules and plain laws that the walks use.
-/
import Derived.Test.YtohjlkjhpibkmaaGreatDoorE12
import Derived.Lib.RowBridge
import Derived.Test.YtohjlkjhpibkmaaGreatDoorE03
import Derived.Lib.Join
import Derived.Lib.ItoaLen
import Derived.Lib.ItoaMem
import Derived.Test.YtohjlkjhpibkmaaGreatDoorE04
import Derived.Test.YtohjlkjhpibkmaaGreatDoorE05
set_option linter.all false
namespace Go.LK.dV
open Go Go.LK
inductive lr (D:Nat→Nat→Bool):Nat→Nat→Prop
  | one {b k:Nat}:D b k=true→lr D b k
  | step {b d k:Nat}:lr D b d→D d k=true→lr D b k
def lr.first{D:Nat→Nat→Bool}{b k:Nat}(c:lr D b k):D b k=true∨∃ d,D b d=true∧lr D d k:=by
  induction c with
  | one c=>exact .inl c
  | step c J b6 =>
    rcases b6 with aA|⟨d,aA,aZ⟩
    · exact .inr ⟨_,aA,.one J⟩
    · exact .inr ⟨d,aA,.step aZ J⟩
def r(L:List (List Int))(b k:Nat):Bool:=decide (b < L.length)&&decide (k < L.length)&&(L.getD b []).contains (k:Int)
def ql{L:List (List Int)}{b k:Nat}(c:r L b k=true):b < L.length∧k < L.length:=by
  simp only [r,h6,decide_eq_true_eq] at c
  exact c.1
def PH{L:List (List Int)}{b k:Nat}(c:lr (r L) b k):b < L.length∧k < L.length:=by
  induction c with
  | one c=>exact ql c
  | step _ J b6=>exact ⟨b6.1,(ql J).2⟩
noncomputable def Ge (L:List (List Int)) (b k:Nat):Bool:=@decide (lr (r L) b k) (Classical.propDecidable _)
def A7{L:List (List Int)}{b k:Nat}:Ge L b k=true↔lr (r L) b k:=by
  unfold Ge;exact @decide_eq_true_iff _ (Classical.propDecidable _)
noncomputable def vz (L:List (List Int)) (b:Nat):List Int:=((List.range L.length).filter (Ge L b)).map fun (s:Nat)=>(s:Int)
def apz{L:List (List Int)}{b:Nat}{e:Int}:e∈vz L b↔∃ k:Nat,e=k∧lr (r L) b k:=by
  unfold vz
  rw [bx]
  constructor
  · rintro ⟨k,ag,rfl⟩
    exact ⟨k,rfl,A7.1 (pt.1 ag).2⟩
  · rintro ⟨k,rfl,ad⟩
    exact ⟨k,pt.2 ⟨kd.2 (PH ad).2,A7.2 ad⟩,rfl⟩
def x6(t:List Bool):Nat:=t.countP id
def ahR(t:List Bool):x6 t≤t.length:=List.countP_le_length
def T5:∀ {l p:List Bool},l.length=p.length→(∀ k:Nat,l[k]?=some true→p[k]?=some true)→x6 l≤x6 p
  | [],[],_,_=>oQ _
  | e :: l,F :: p,S,c=>by
    have b6:=T5 (l:=l) (p:=p) Lw fun k ag=>by simpa using c (k+1) DO
    exact abX
def MV:∀ {l p:List Bool} {k:Nat},l.length=p.length→(∀ k:Nat,l[k]?=some true→p[k]?=some true)→l[k]?=some false→p[k]?=some true→x6 l < x6 p
  | [],[],k,_,_,c,_=>by simp at c
  | e :: l,F :: p,0,S,c,G,J=>by
    have b6:=T5 (l:=l) (p:=p) Lw fun k ag=>by simpa using c (k+1) DO
    simp at G J
    subst G;subst J
    unfold x6 at b6 ⊢
    simp only [List.countP_cons]
    simp;omega
  | e :: l,F :: p,k+1,S,c,G,J=>by
    have b6:=MV (l:=l) (p:=p) (k:=k) Lw (fun k ag=>by simpa using c (k+1) DO) Rm abg
    exact abX
abbrev Y(t:List Bool)(k:Nat):Prop:=t[k]?=some true
structure py (L:List (List Int)) (z:Nat) (mE x:List Bool) (u d:Nat):Prop where
  FL:mE.length=L.length
  len:x.length=L.length
  sub:∀ k,Y mE k→Y x k
  xf:∀ k,Y x k→lr (r L) z k
  done:∀ k,k < u→∀ b,r L b k=true→(b=z∨Y mE b)→Y x k
  vc:∀ b,b < d→r L b u=true→(b=z∨Y mE b)→Y x u
def L5(L:List (List Int))(z:Nat)(t:List Bool):Prop:=∀ b k,r L b k=true→(b=z∨Y t b)→Y t k
structure rv (L:List (List Int)) (z:Nat) (t:List Bool) (Z:Nat):Prop where
  len:t.length=L.length
  xf:∀ k,Y t k→lr (r L) z k
  UA:L5 L z t∨Z≤x6 t
section
variable {L:List (List Int)} {z u d Z:Nat} {mE x t:List Bool}
def rv.zero:rv L z (List.replicate L.length false) 0:=⟨by simp,fun k ag=>by
  unfold Y at ag;rw [GJ] at ag;split at ag<;>simp at ag,.inr (GG _)⟩
def rv.begin(c:rv L z t Z):py L z t t 0 0:=⟨c.len,c.len,fun _ c=>c,c.xf,fun k ag=>absurd ag (ts _),fun b ac=>absurd ac (ts _)⟩
def py.row(c:py L z mE x u L.length):py L z mE x (u+1) 0:=⟨c.FL,c.len,c.sub,c.xf,fun k ag b aC ac=>by
  rcases mR k u with G|G
  · exact c.done k G b aC ac
  · have:k=u:=by omega
    subst this
    exact c.vc b (ql aC).1 aC ac,fun b ac=>absurd ac (ts _)⟩
def py.skip(c:py L z mE x u d)(aw:¬(r L d u=true∧(d=z∨Y x d))):py L z mE x u (d+1):=⟨c.FL,c.len,c.sub,c.xf,c.done,fun b ac aC av=>by
  rcases mR b d with G|G
  · exact c.vc b G aC av
  · have:b=d:=by omega
    subst this
    exact absurd ⟨aC,av.imp id (c.sub _)⟩ aw⟩
def py.mark(c:py L z mE x u d)(aC:r L d u=true)(R:d=z∨Y x d):py L z mE (x.set u true) u (d+1):=by
  have ad:lr (r L) z u:=by
    rcases R with rfl|R
    · exact .one aC
    · exact .step (c.xf _ R) aC
  have bA:u < x.length:=by rw [c.len];exact (ql aC).2
  have W:∀ k,Y x k→Y (x.set u true) k:=fun k ag=>by
    unfold Y at ag ⊢
    rw [qH]
    split
    · first|rfl|rw [ee E]
    · exact ag
  refine ⟨c.FL,by simpa using c.len,fun k ag=>W k (c.sub k ag),fun k ag=>?_,fun k ag b G J=>W k (c.done k ag b G J),fun b _ _ _=>?_⟩
  · unfold Y at ag
    rw [qH] at ag
    split at ag
    · rename_i CI;subst CI;exact ad
    · exact c.xf k ag
  · unfold Y;rw [qH,ee rfl,ee bA]
def py.PG(c:py L z mE x L.length 0)(bB:rv L z mE Z):rv L z x (Z+1):=by
  refine ⟨c.len,c.xf,?_⟩
  have ao:∀ b k,r L b k=true→(b=z∨Y mE b)→Y x k:=fun b k aC av=>c.done k (ql aC).2 b aC av
  by_cases aS:L5 L z mE
  · refine .inl fun b k aC ac=>?_
    have fw:∀ k,lr (r L) z k→Y mE k:=fun k ad=>by
      exact ab_
    refine ao b k aC (ac.imp id fun ac=>fw _ (c.xf _ ac))
  · refine .inr ?_
    have:∃ b k,r L b k=true∧(b=z∨Y mE b)∧¬Y mE k:=zc fun aw=>aS fun b k aC ac=>zc fun ag=>aw ⟨b,k,aC,ac,ag⟩
    obtain ⟨b,k,aC,ac,ag⟩:=this
    have pb:k < mE.length:=by rw [c.FL];exact (ql aC).2
    have bc:mE[k]?=some false:=by
      rw [et pb]
      unfold Y at ag
      rw [et pb] at ag
      cases av:mE[k]<;>simp_all
    have ca:=MV (l:=mE) (p:=x) (k:=k) (by rw [c.FL,c.len]) c.sub bc (ao b k aC ac)
    rcases bB.UA with G|G
    · exact absurd G aS
    · omega
def rv.FI(c:rv L z t L.length)(k:Nat):Y t k↔lr (r L) z k:=by
  refine ⟨c.xf k,fun ad=>?_⟩
  have aS:L5 L z t:=by
    rcases c.UA with G|G
    · exact G
    · intro b k aC _
      have pb:k < t.length:=by rw [c.len];exact (ql aC).2
      by_cases ag:Y t k
      · exact ag
      · exfalso
        have bc:t[k]?=some false:=by
          rw [et pb]
          unfold Y at ag
          rw [et pb] at ag
          cases av:t[k]<;>simp_all
        have J:=MV (l:=t) (p:=List.replicate t.length true) (k:=k) oU (fun b ac=>by
          have:b < t.length:=(dD.1 ac).1
          rw [GJ,ee this]) bc (by rw [GJ,ee pb])
        have aA:=ahR (List.replicate t.length true)
        rw [Bu] at aA
        have aZ:=c.len
        omega
  exact ab_
def w3(t:List Bool)(d:Nat):List Int:=((List.range d).filter fun k=>t.getD k false).map fun (s:Nat)=>(s:Int)
def apv(c:t[d]?=some true):w3 t (d+1)=w3 t d++[(d:Int)]:=by
  have:t.getD d false=true:=by rw [ps,c];rfl
  unfold w3;rw [rm,jg,gR,nR,ee this];rfl
def apu(c:t[d]?=some false):w3 t (d+1)=w3 t d:=by
  have:¬t.getD d false=true:=by rw [ps,c];simp
  unfold w3;rw [rm,jg,gR,nR,be this];simp
def rv.row(c:rv L z t L.length):w3 t L.length=vz L z:=by
  unfold w3 vz
  congr 1
  refine KO fun k ag=>?_
  have G:=c.FI k
  rw [KM,A7,←G]
  unfold Y
  rw [ps]
  cases bh:t[k]? with
  | none=>simp
  | some p=>simp
end
def pG(L:List (List Int))(v:List Nat)(s:Nat):Nat:=((List.range L.length).filter fun i=>r L i s&&!v.contains i).length
def pick(L:List (List Int))(v:List Nat):Option Nat:=(List.range L.length).find? fun s=>!v.contains s&&pG L v s == 0
def jp(L:List (List Int)):Nat→Option (List Nat)
  | 0=>some []
  | d+1=>(jp L d).bind fun v=>(pick L v).map fun s=>v++[s]
section
variable {L:List (List Int)} {v:List Nat} {d s:Nat}
def T6:pG L v s=0↔∀ i,r L i s=true→i∈v:=by
  unfold pG
  rw [uO,Dz]
  constructor
  · intro c i aS
    have:=c i (kd.2 (ql aS).1)
    simpa [aS] using this
  · intro c i _ aS
    simp only [h6,uN,y',decide_eq_false_iff_not] at aS
    exact aS.2 (c i aS.1)
def A5(c:pick L v=some s):s < L.length∧s∉v∧∀ i,r L i s=true→i∈v:=by
  have G:=aao c
  have J:=KZ c
  simp only [h6,uN,y',decide_eq_false_iff_not,beq_iff_eq] at G
  exact ⟨kd.1 J,G.1,T6.1 G.2⟩
def arZ(c:pick L v=none)(aw:s < L.length)(bw:s∉v):∃ i,r L i s=true∧i∉v:=by
  have G:=DF.1 c s (kd.2 aw)
  simp only [h6,uN,y',decide_eq_false_iff_not,beq_iff_eq,not_and] at G
  have J:¬pG L v s=0:=G bw
  rw [T6] at J
  exact zc fun aS=>J fun i E_=>zc fun aA=>aS ⟨i,E_,aA⟩
def arX(aw:s < L.length)(bw:s∉v)(bB:pG L v s=0)(S:∀ k,k < s→k∈v∨pG L v k≠0):pick L v=some s:=by
  unfold pick
  rw [List.find?_range_eq_some]
  refine ⟨by simp [bw,bB],by simpa using aw,fun k ag=>?_⟩
  rcases S k ag with c|c
  · simp [c]
  · simp [c]
def ar0(S:∀ k,k < L.length→k∈v∨pG L v k≠0):pick L v=none:=by
  unfold pick
  rw [DF]
  intro k ag
  rcases S k (kd.1 ag) with c|c
  · simp [c]
  · simp [c]
def JK(c:jp L (d+1)=some v):∃ jo s,jp L d=some jo∧pick L jo=some s∧v=jo++[s]:=by
  simp only [jp,Option.bind_eq_some_iff,Bz] at c
  obtain ⟨jo,G,s,J,rfl⟩:=c
  exact ⟨jo,s,G,J,rfl⟩
def arz(c:jp L d=none):∀ t,d≤t→jp L t=none:=by
  intro t
  induction t with
  | zero=>intro bh;(have:d=0:=by omega);subst this;exact c
  | succ t b6 =>
    intro bh
    rcases mR t d with G|G
    · have:d=t+1:=by omega
      subst this;exact c
    · simp [jp,b6 G]
def PE:∀ {d:Nat} {v:List Nat},jp L d=some v→v.length=d
  | 0,v,c=>by cases c;rfl
  | d+1,v,c=>by
    obtain ⟨jo,s,G,J,rfl⟩:=JK c
    simp [PE G]
def JJ:∀ {d:Nat} {v:List Nat},jp L d=some v→∀ s∈v,∀ i,r L i s=true→i∈v
  | 0,v,c=>by cases c;simp
  | d+1,v,c=>by
    obtain ⟨jo,n,G,J,rfl⟩:=JK c
    intro s aw i aS
    rcases iE.1 aw with aw|aw
    · exact iE.2 (.inl (JJ G s aw i aS))
    · rw [nm.1 aw] at aS
      exact iE.2 (.inl ((A5 J).2.2 i aS))
def arA(c:jp L d=some v){b k:Nat}(ad:lr (r L) b k):k∈v→b∈v:=by
  induction ad with
  | one aC=>intro ag;exact JJ c _ ag _ aC
  | step _ aC b6=>intro ag;exact b6 (JJ c _ ag _ aC)
def XO:∀ {d:Nat} {v:List Nat},jp L d=some v→∀ s∈v,¬lr (r L) s s
  | 0,v,c=>by cases c;simp
  | d+1,v,c=>by
    obtain ⟨jo,n,G,J,rfl⟩:=JK c
    intro s aw
    rcases iE.1 aw with aw|aw
    · exact XO G s aw
    · rw [nm.1 aw]
      obtain ⟨_,ad,aS⟩:=A5 J
      intro IZ
      cases IZ with
      | one aC=>exact ad (aS _ aC)
      | step aA aC=>exact ad (arA G aA (aS _ aC))
def kL(L:List (List Int))(v:List Nat):List Nat:=(List.range L.length).filter fun s=>!v.contains s
def arC{n:Nat}(ad:n < L.length)(bw:n∉v):(kL L (v++[n])).length+1=(kL L v).length:=by
  have G:kL L (v++[n])=(kL L v).filter fun s=>decide (s≠n):=by
    unfold kL
    rw [KY]
    refine KO fun s _=>?_
    by_cases c:s∈v<;>by_cases J:s=n<;>simp [c,J]
  have J:n∈kL L v:=pt.2 ⟨kd.2 ad,by simp [bw]⟩
  have aA:(kL L v).Nodup:=aB4 _ tp
  rw [G]
  clear G
  generalize kL L v=f at J aA
  induction f with
  | nil=>simp at J
  | cons e f b6 =>
    have aZ:=kP.1 aA
    by_cases Q:e=n
    · subst Q
      have:f.filter (fun s=>decide (s≠e))=f:=rk.2 fun F az=>by
        have:F≠e:=fun aC=>aZ.1 (aC ▸ az)
        simp [this]
      simp only [ne_eq,decide_not] at this
      simp [this]
    · have bh:n∈f:=by
        rcases fb.1 J with c|c
        · exact absurd c.symm Q
        · exact c
      have:=b6 bh aZ.2
      simp [Q]
      simpa using this
def PF:∀ {d:Nat} {v:List Nat},jp L d=some v→(kL L v).length+d=L.length
  | 0,v,c=>by
    cases c
    have:(List.range L.length).filter (fun s=>!([]:List Nat).contains s)=List.range L.length:=rk.2 fun _ _=>rfl
    simp only [kL,this,DB,DD]
  | d+1,v,c=>by
    obtain ⟨jo,n,G,J,rfl⟩:=JK c
    have:=PF G
    have:=arC (A5 J).1 (A5 J).2.1
    omega
def arx(c:jp L L.length=some v):∀ s,s < L.length→s∈v:=by
  have G:=PF c
  have J:kL L v=[]:=By E
  intro s aw
  have:=Dz.1 J s (kd.2 aw)
  simpa using this
noncomputable def HW (L:List (List Int)) (s:Nat):Nat:=((List.range L.length).filter fun b=>Ge L b s).length
def aiV{n A:Nat→Bool}{f:List Nat}(W:∀ e,n e=true→A e=true){F:Nat}(az:F∈f)(G:n F=false)(J:A F=true):(f.filter n).length < (f.filter A).length:=by
  induction f with
  | nil=>simp at az
  | cons e f b6 =>
    have h9:(f.filter n).length≤(f.filter A).length:=by
      clear b6 az
      induction f with
      | nil=>simp
      | cons aI f b6 =>
        have:=W aI
        cases ad:n aI<;>cases a6:A aI<;>simp_all<;>omega
    rcases fb.1 az with rfl|az
    · simp [G,J];omega
    · have:=b6 az
      have:=W e
      cases ad:n e<;>cases a6:A e<;>simp_all<;>omega
def agu(aS:∀ b,¬lr (r L) b b){i s:Nat}(c:r L i s=true):HW L i < HW L s:=by
  unfold HW
  refine aiV (F:=i) (fun b ac=>A7.2 (.step (A7.1 ac) c)) (kd.2 (ql c).1) ?_ (A7.2 (.one c))
  cases av:Ge L i i with
  | false=>rfl
  | true=>exact absurd (A7.1 av) (aS i)
def Xm{z:Nat→Nat}:∀ {f:List Nat},f≠[]→∃ e∈f,∀ F∈f,z e≤z F
  | [e],_=>⟨e,by simp,by simp⟩
  | e :: aI :: f,_=>by
    obtain ⟨t,bh,S⟩:=Xm (z:=z) (f:=aI :: f) oU
    rcases Nat.le_total (z e) (z t) with c|c
    · exact ⟨e,by simp,fun F az=>by
        rcases fb.1 az with rfl|az
        · exact oQ _
        · exact iZ c (S F az)⟩
    · exact ⟨t,gS _ bh,fun F az=>by
        rcases fb.1 az with rfl|az
        · exact c
        · exact S F az⟩
def arY(aS:∀ b,¬lr (r L) b b)(bw:kL L v≠[]):∃ s,pick L v=some s:=by
  cases ad:pick L v with
  | some s=>exact ⟨s,rfl⟩
  | none =>
    exfalso
    obtain ⟨s,aw,alD⟩:=Xm (z:=HW L) bw
    have G:=pt.1 aw
    obtain ⟨i,J,aA⟩:=arZ ad (kd.1 G.1) (by simpa using G.2)
    have:=alD i (pt.2 ⟨kd.2 (ql J).1,by simpa using aA⟩)
    have:=agu aS J
    omega
def XN(aS:∀ b,¬lr (r L) b b):∀ d,d≤L.length→∃ v,jp L d=some v
  | 0,_=>⟨[],rfl⟩
  | d+1,R=>by
    obtain ⟨v,bw⟩:=XN aS d E
    have G:=PF bw
    obtain ⟨s,aw⟩:=arY (v:=v) aS (fun c=>by rw [c] at G;simp at G;omega)
    exact ⟨v++[s],by simp [jp,bw,aw]⟩
def XM:(∃ v,jp L L.length=some v)↔∀ b,b < L.length→¬lr (r L) b b:=by
  constructor
  · rintro ⟨v,bw⟩ b ac
    exact XO bw b (arx bw b ac)
  · intro c
    exact XN (fun b ad=>c b (PH ad).1 ad) _ (oQ _)
end
noncomputable def loops (L:List (List Int)):Int:=@ite _ (∃ v,jp L L.length=some v) (Classical.propDecidable _) 0 11
def O_{L:List (List Int)}{v:List Nat}(c:jp L L.length=some v):loops L=0:=by unfold loops;rw [ee ⟨v,c⟩]
def Xc{L:List (List Int)}(c:jp L L.length=none):loops L=11:=by
  unfold loops;rw [be];rintro ⟨v,bw⟩;rw [c] at bw;cases bw
def apn{L:List (List Int)}{b:Nat}(c:lr (r L) b b):loops L=11:=by
  refine Xc ?_
  cases bw:jp L L.length with
  | none=>rfl
  | some v=>exact absurd c (XM.1 ⟨v,bw⟩ b (PH c).1)
def apm{L:List (List Int)}(c:∀ b,b < L.length→¬lr (r L) b b):loops L=0:=by
  obtain ⟨v,bw⟩:=XM.2 c
  exact O_ bw
end Go.LK.dV
namespace Go.LK
structure L2 where
  call:Int
  code:Int
def Ib(p:Bool):List Value:=[.bool p]
end Go.LK
namespace Go.LK.bn
open Go Go.LK
def oX(f:List Int)(e d:Int):Prop:=(d=-1∧e∉f)∨∃ s:Nat,d=s∧f[s]?=some e∧∀ k,k < s→∀ F,f[k]?=some F→F≠e
def anq{f:List Int}{e:Int}{d:Nat}(c:∀ k,k < d→∀ F,f[k]?=some F→F≠e)(R:¬d < f.length):oX f e (-1):=.inl ⟨rfl,fun bh=>by
  obtain ⟨k,ag⟩:=kw.1 bh
  have:=(dD.1 ag).1
  exact c k E e ag rfl⟩
def ans{f:List Int}{e F:Int}{d:Nat}(c:∀ k,k < d→∀ F,f[k]?=some F→F≠e)(az:f[d]?=some F)(aC:e=F):oX f e (d:Int):=.inr ⟨d,rfl,by rw [az,aC],c⟩
def anp{f:List Int}{e F:Int}{d:Nat}(c:∀ k,k < d→∀ F,f[k]?=some F→F≠e)(az:f[d]?=some F)(aC:¬e=F):∀ k,k < d+1→∀ F,f[k]?=some F→F≠e:=fun k ag aI ce=>by
  rcases mR k d with G|G
  · exact c k G aI ce
  · have:k=d:=by omega
    subst this
    rw [az] at ce;cases ce
    exact fun c=>aC c.symm
def AM{f:List Int}{e d:Int}(c:oX f e d):0≤d↔e∈f:=by
  rcases c with ⟨rfl,c⟩|⟨s,rfl,c,_⟩
  · exact ⟨fun c=>by omega,fun J=>absurd J c⟩
  · exact ⟨fun _=>eF c,fun _=>by omega⟩
def WB{f:List Int}{e d:Int}(c:oX f e d)(bB:0≤d):f[d.toNat]?=some e∧d < f.length∧d.toNat+1=(d+1).toNat:=by
  rcases c with ⟨rfl,_⟩|⟨s,rfl,c,_⟩
  · omega
  · refine ⟨by simpa using c,?_,by omega⟩
    have:=(dD.1 c).1
    omega
def c8(f:List Int)(i:Int):List Int:=f.filter fun e=>decide (e≠i)
def M6{f:List Int}{e d:Int}(bp:jD f)(c:oX f e d)(bB:0≤d):f.take d.toNat++f.drop (d+1).toNat=c8 f e:=by
  obtain ⟨G,_,aA⟩:=WB c bB
  rw [←aA];exact ano bp G
def Z6{f:List Int}{i:Int}(c:jD f):jD (c8 f i):=aB4 _ c
def tl{f:List Int}{i:Int}:(c8 f i).length≤f.length:=kv _ _
def N0{f:List Int}{e F:Int}{d:Nat}(c:e∉f.take d)(az:f[d]?=some F)(aw:¬F=e):e∉f.take (d+1):=by
  rw [hx,az,iE]
  simp only [Option.toList_some,nm,not_or]
  exact ⟨c,fun aC=>aw aC.symm⟩
def NZ{f:List Int}{e F:Int}{d:Nat}(az:f[d]?=some F)(aC:F=e):e∈f:=aC ▸ eF az
def VE{f:List Int}{e:Int}{d:Nat}(c:e∉f.take d)(R:¬d < f.length):e∉f:=by rwa [ir E] at c
def QD{f:List Int}{i F:Int}{d:Nat}(az:f[d]?=some F)(c:¬F=i):c8 (f.take (d+1)) i=c8 (f.take d) i++[F]:=by
  unfold c8;rw [Uz az,ee c]
def QC{f:List Int}{i F:Int}{d:Nat}(az:f[d]?=some F)(c:F=i):c8 (f.take (d+1)) i=c8 (f.take d) i:=by
  unfold c8;rw [Uz az,be sg];simp
def anD{v:List Int}{e:Int}(c:e∈v):hO v e=v:=ee c
def anF{v:List Int}{e:Int}(c:e∉v):hO v e=q9 v e:=be c
def c6(f:List L2)(d:Nat)(e:Int):Bool:=(f.take d).any fun l=>decide (l.call=e)
def rem(cr:List Int)(f:List L2)(d:Nat):List Int:=(rising cr).filter fun e=>!c6 f d e
section
variable {cr:List Int} {f:List L2} {d A:Nat} {l:L2} {e:Int}
end
end Go.LK.bn
namespace Go.LK.B1
open Go Go.LK
abbrev fB:=List UInt8
def ao(i:UInt8):List fB→List fB
  | []=>[[i]]
  | c :: u=>(i :: c) :: u
def aBv(n:UInt8→Bool):fB→List fB
  | []=>[[]]
  | i :: f=>if n i then [] :: aBv n f else ao i (aBv n f)
def aBx(r:Int)(f:fB):fB:=f.takeWhile fun i=>decide ((i.toNat:Int)≠r)
def lD(n:UInt8→Bool)(r:Int)(H:fB):List fB:=aBv n (aBx r H)
def c2(i:UInt8):Bool:=decide ((i.toNat:Int)=10)
def ic(i:UInt8):Bool:=decide ((i.toNat:Int)=32) || decide ((i.toNat:Int)=9)
def aBU{n:UInt8→Bool}:∀ {l p:fB} {c:fB} {u:List fB},(∀ e∈l,n e=false)→aBv n p=c :: u→aBv n (l++p)=(l++c) :: u
  | [],p,c,u,_,av=>av
  | i :: l,p,c,u,aS,av=>by
    have b6:=aBU (l:=l) (fun e Q=>aS e DR) av
    rw [oo,aBv,be (by rw [aS i oU];simp),b6]
    rfl
def aCA{r:Int}{i:UInt8}{f:fB}(c:(i.toNat:Int)=r):aBx r (i :: f)=[]:=by simp [aBx,c]
def aBP{r:Int}{i:UInt8}{f:fB}(c:¬(i.toNat:Int)=r):aBx r (i :: f)=i :: aBx r f:=by simp [aBx,c]
def aB0{r:Int}:∀ {l p:fB},(∀ e∈l,¬(e.toNat:Int)=r)→aBx r (l++p)=l++aBx r p
  | [],_,_=>rfl
  | i :: l,p,c=>by rw [oo,aBP (c i oU),aB0 fun e Q=>c e DR];rfl
def cG(n:UInt8→Bool)(r:Int)(H:fB)(l p:Nat):Prop:=∀ k i,l≤k→k < p→H[k]?=some i→n i=false∧¬(i.toNat:Int)=r
section
variable {n:UInt8→Bool} {r:Int} {H:fB} {aE b:Nat} {kL:List fB} {i:UInt8}
def H'(aS:H[b]?=some i)(c:aE≤b):H.drop aE=(H.drop aE).take (b-aE)++i :: H.drop (b+1):=by
  obtain ⟨ca,rfl⟩:=dD.1 aS
  have G:(H.drop aE).drop (b-aE)=H.drop b:=by rw [DH];congr 1;omega
  rw [←qF ca,←G,kQ]
end
section
variable {fz:Int→Bool} {r:Int} {H:fB} {aE b:Nat} {kL:List fB} {p:UInt8}
end
def aBC(f:List fB):List fB:=f.filter fun j=>!(j == [])
def Cn(H:fB):List fB:=aBC (lD ic 35 H)
def aCf{j:fB}(f:List fB)(c:(j == [])=false):aBC (j :: f)=j :: aBC f:=by simp only [aBC,nR,c];rfl
section
variable {H:fB} {b:Nat} {kL:List fB} {j:fB} {i:UInt8}
def aB_(G:¬(i.toNat:Int)=32)(J:¬(i.toNat:Int)=9):ic i=false:=by simp [ic,G,J]
end
def aCj{aBO u:fB}{Z:List fB}(c:Z≠[]):Lib.join (u :: Z) aBO=u++(aBO++Lib.join Z aBO):=by
  cases Z with
  | nil=>exact absurd rfl c
  | cons aG Z =>
    rw [Lib.join_cons,Lib.join_cons]
    unfold Lib.joinTail
    simp
def Te(j:fB):Prop:=j≠[]∧∀ e∈j,ic e=false∧¬(e.toNat:Int)=35
def Te.z{j:fB}(c:Te j):(j == [])=false:=by simpa using c.1
def aCC:Cn []=[]:=rfl
def aCB{i:UInt8}(H:fB)(c:ic i=true)(U9:¬(i.toNat:Int)=35):Cn (i :: H)=Cn H:=by
  unfold Cn lD
  rw [aBP U9,aBv,ee c];rfl
def aB2{j H:fB}(c:Te j)(W:H=[]∨(∃ i u,H=i :: u∧(ic i=true∨(i.toNat:Int)=35))):Cn (j++H)=j :: Cn H:=by
  unfold Cn lD
  rw [aB0 fun e Q=>(c.2 e Q).2]
  have aS:aBv ic (aBx 35 H)=[] :: (aBv ic (aBx 35 H)).tail:=by
    rcases W with rfl|⟨i,u,rfl,aS⟩
    · rfl
    · by_cases U9:(i.toNat:Int)=35
      · rw [aCA U9];rfl
      · rcases aS with aS|aS
        · rw [aBP U9,aBv,ee aS];rfl
        · exact absurd aS U9
  rw [aBU (fun e Q=>(c.2 e Q).1) aS,xA,aCf _ c.z]
  congr 1
  conv=>rhs;rw [aS]
  rfl
def aBT:ic 32=true:=rfl
def aB1:∀ (f:List fB) (H:fB),f≠[]→(∀ j∈f,Te j)→(H=[]∨(∃ i u,H=i :: u∧(ic i=true∨(i.toNat:Int)=35)))→Cn (Lib.join f [32]++H)=f++Cn H
  | [],_,c,_,_=>absurd rfl c
  | [j],H,_,c,W=>by
    rw [Lib.join_one,aB2 (c j oU) W];rfl
  | j :: aG :: Z,H,_,c,W=>by
    have b6:=aB1 (aG :: Z) H oU (fun e Q=>c e (gS _ Q)) W
    rw [aCj oU,ia,aB2 (c j oU) (.inr ⟨32,Lib.join (aG :: Z) [32]++H,by simp,.inl aBT⟩)]
    rw [show [32]++Lib.join (aG :: Z) [32]++H=32 :: (Lib.join (aG :: Z) [32]++H) from rfl,aCB _ aBT bd,b6]
    rfl
def aBD(r:UInt8)(H:fB)(b:Nat):Prop:=∀ k i,k < b→H[k]?=some i→i≠r
def aBW{r:UInt8}{H:fB}{b:Nat}:Lib.occAt H [r] b=true↔H[b]?=some r:=by
  unfold Lib.occAt
  rw [List.isPrefixOf_iff_prefix]
  constructor
  · rintro ⟨u,bA⟩
    have c:=dz (·[0]?) bA
    simp only [oo,DE,xx,DD] at c
    exact c.symm
  · intro c
    obtain ⟨ca,aC⟩:=dD.1 c
    refine ⟨H.drop (b+1),?_⟩
    rw [qF ca,aC]
    rfl
def aCm{r:UInt8}{H:fB}{b:Nat}(c:aBD r H b):Lib.NoOcc H [r] b:=fun k ag=>by
  cases bw:Lib.occAt H [r] k with
  | false=>rfl
  | true=>exact absurd rfl (c k r ag (aBW.1 bw))
def aCc{r:UInt8}{H:fB}{b:Nat}(c:aBD r H b)(av:H[b]?=some r):Lib.cut H [r]=(H.take b,H.drop (b+1),true):=by
  have ca:=(dD.1 av).1
  have ac:=Lib.index_hit (aCm c) E (aBW.2 av)
  unfold Lib.cut
  rw [ac,ee E]
  simp
def aBt(j:fB):fB×fB×Bool:=if (Lib.cut j [61]).2.2 then Lib.cut j [61] else ([],[],false)
def aCb{j:fB}(c:(Lib.cut j [61]).2.2=true):aBt j=((Lib.cut j [61]).1,(Lib.cut j [61]).2.1,true):=by rw [aBt,c];simp [←c]
def aCe{p:UInt8}(c:(p.toNat:Int)=61):p=61:=UInt8.toNat_inj.1 (by show p.toNat=61;omega)
def aB'{j:fB}{b:Nat}{p:UInt8}(c:aBD 61 j b)(av:j[b]?=some p)(ay2:(p.toNat:Int)=61):aBt j=(j.take b,j.drop (b+1),true):=by
  have:=aCe ay2
  subst this
  have aS:=aCc c av
  rw [aCb (by rw [aS]),aS]
def aCa{l p:fB}(c:∀ e∈l,e≠61):aBt (l++61 :: p)=(l,p,true):=by
  have G:aBD 61 (l++61 :: p) l.length:=fun k i ag aS=>by
    rw [to ag] at aS
    exact c i (eF aS)
  have J:(l++61 :: p)[l.length]?=some 61:=by rw [Du (oQ _)];simp
  rw [aB' G J bd]
  have aA:(l++61 :: p).take l.length=l:=by simp
  have aZ:(l++61 :: p).drop (l.length+1)=p:=by rw [←DH];simp
  rw [aA,aZ]
end Go.LK.B1
namespace Go.LK.L6
open Go Go.LK
def aCI(H:List UInt8):Bool:=match Lib.parseIntB 64 H with|.ok _=>true|_=>false
def GR(H:List UInt8):Int×Int:=match Lib.parseIntB 64 H with
  | .ok s=>if Lib.itoa s=H then (s,0) else (0,2)
  | _=>(0,2)
def aCs{H:List UInt8}{s:Int}(c:Lib.parseIntB 64 H=.ok s)(J:(Lib.itoa s == H)=true):GR H=(s,0):=by
  unfold GR
  rw [c]
  simp only []
  rw [ee abg]
end Go.LK.L6
namespace Go.LK.L6
open Go Go.LK
def aBA(i:UInt8):Prop:=48≤i.toNat∧i.toNat≤57
def aBN{aG:Nat}(c:aG < 10):(UInt8.ofNat (48+aG)).toNat=48+aG:=by
  rw [UInt8.toNat_ofNat']
  omega
def aBK{aG:Nat}(c:aG < 10):Lib.decDigits aG=[UInt8.ofNat (48+aG)]:=Lib.decDigits_one c
def aBH{aG:Nat}(c:¬aG < 10):Lib.decDigits aG=Lib.decDigits (aG / 10)++[UInt8.ofNat (48+aG%10)]:=by rw [Lib.decDigits,dif_neg c]
def aBI:∀ (aG:Nat),∀ i∈Lib.decDigits aG,aBA i:=fun aG=>by
  induction aG using Nat.strongRecOn with
  | _ aG b6 =>
    intro i aS
    by_cases c:aG < 10
    · rw [aBK c,nm] at aS
      subst aS
      unfold aBA;rw [aBN c];omega
    · rw [aBH c,iE,nm] at aS
      rcases aS with aS|rfl
      · exact b6 (aG / 10) E i aS
      · unfold aBA;rw [aBN E];omega
def aBJ(aG:Nat):Lib.decDigits aG≠[]:=by
  by_cases c:aG < 10
  · rw [aBK c];simp
  · rw [aBH c];simp
def aBX(bL:Nat):∀ (f t:List UInt8) (Wa m:Nat),Lib.parseUintM bL Wa f=.ok m→Lib.parseUintM bL Wa (f++t)=Lib.parseUintM bL m t
  | [],t,Wa,m,c=>by simp only [Lib.parseUintM,Lib.NumEnd.ok.injEq] at c;subst c;rfl
  | i :: f,t,Wa,m,c=>by
    simp only [oo,Lib.parseUintM] at c ⊢
    by_cases G:48≤i.toNat∧i.toNat≤57
    · rw [ee G] at c ⊢
      by_cases J:1844674407370955162≤Wa
      · rw [ee J] at c;cases c
      · rw [be J] at c ⊢
        by_cases aA:bL < Wa*10+(i.toNat-48)
        · rw [ee aA] at c;cases c
        · rw [be aA] at c ⊢
          exact aBX bL f t _ m c
    · rw [be G] at c;cases c
def aBY{bL Wa aG:Nat}(bp:aG < 10)(V:Wa < 1844674407370955162)(hl:Wa*10+aG≤bL):Lib.parseUintM bL Wa [UInt8.ofNat (48+aG)]=.ok (Wa*10+aG):=by
  have c:=aBN bp
  simp only [Lib.parseUintM]
  rw [c,ee E,be E,be E]
  congr 1
  omega
def aCw:∀ (aG:Nat),aG≤18446744073709551615→Lib.parseUintM 18446744073709551615 0 (Lib.decDigits aG)=.ok aG:=fun aG=>by
  induction aG using Nat.strongRecOn with
  | _ aG b6 =>
    intro bp
    by_cases c:aG < 10
    · rw [aBK c,aBY c E E];simp
    · rw [aBH c,aBX _ _ _ _ _ (b6 (aG / 10) E E),aBY E E E]
      congr 1
      omega
def aBZ{aG:Nat}(bp:aG≤18446744073709551615):Lib.parseUintB 64 (Lib.decDigits aG)=.ok aG:=by
  unfold Lib.parseUintB
  rw [be (aBJ aG)]
  exact aCw aG bp
def aB8{aG:Nat}(bp:aG < 9223372036854775808):Lib.parseIntB 64 (Lib.decDigits aG)=.ok (aG:Int):=by
  have ad:=aBZ (aG:=aG) E
  have ao:=aBI aG
  cases c:Lib.decDigits aG with
  | nil=>exact absurd c (aBJ aG)
  | cons i Z =>
    rw [c] at ad ao
    have aS:=ao i oU
    unfold aBA at aS
    rw [Lib.parseIntB_plain 64 i Z E E,ad]
    simp only [Lib.signlessC]
    rw [be E]
def aB9{aG:Nat}(bp:aG≤9223372036854775808):Lib.parseIntB 64 (45 :: Lib.decDigits aG)=.ok (-(aG:Int)):=by
  rw [Lib.parseIntB_minus,aBZ E]
  simp only [Lib.signedC]
  rw [be E]
def aBM{s:Int}(c:0≤s):Lib.itoa s=Lib.decDigits s.toNat:=by unfold Lib.itoa;rw [be E]
def aBL{s:Int}(c:s < 0):Lib.itoa s=45 :: Lib.decDigits s.natAbs:=by unfold Lib.itoa;rw [ee c]
def ik(s:Int):Prop:=-9223372036854775808≤s∧s≤9223372036854775807
def o3{s:Int}(c:ik s):Lib.parseIntB 64 (Lib.itoa s)=.ok s:=by
  unfold ik at c
  by_cases bB:s < 0
  · rw [aBL bB,aB9 E]
    congr 1
    omega
  · rw [aBM E,aB8 E]
    congr 1
    omega
def aCt{s:Int}(aw:ik s):GR (Lib.itoa s)=(s,0):=aCs (o3 aw) oU
def cj(H:List UInt8)(aE:Nat):Prop:=(aE=1∧∃ i,H[0]?=some i∧i.toNat=45)∨(aE=0∧∀ i,H[0]?=some i→i.toNat≠45)
end Go.LK.L6
namespace Go.LK.B1
open Go Go.LK
def aCg{s:Int}:∀ i∈Lib.itoa s,i.toNat=45∨L6.aBA i:=fun i aS=>by
  by_cases c:s < 0
  · rw [L6.aBL c] at aS
    rcases fb.1 aS with rfl|aS
    · exact .inl rfl
    · exact .inr (L6.aBI _ i aS)
  · rw [L6.aBM E] at aS
    exact .inr (L6.aBI _ i aS)
def aCh(s:Int):Lib.itoa s≠[]:=by
  by_cases c:s < 0
  · rw [L6.aBL c];simp
  · rw [L6.aBM E];exact L6.aBJ _
def aCv{i:UInt8}(c:i.toNat=45∨L6.aBA i):ic i=false∧¬(i.toNat:Int)=35:=by
  unfold L6.aBA at c
  exact ⟨aB_ E E,by omega⟩
def aCi(s:Int):Te (Lib.itoa s):=⟨aCh s,fun i aS=>aCv (aCg i aS)⟩
def jd(name:fB)(s:Int):fB:=name++[61]++Lib.itoa s
def aCq{name:fB}(c:∀ e∈name,ic e=false∧¬(e.toNat:Int)=35)(s:Int):Te (jd name s):=by
  refine ⟨by simp [jd],fun i aS=>?_⟩
  unfold jd at aS
  rcases iE.1 aS with aS|aS
  · rcases iE.1 aS with aS|aS
    · exact c i aS
    · simp at aS;subst aS;exact ⟨rfl,by decide⟩
  · exact (aCi s).2 i aS
def aCp{name:fB}(c:∀ e∈name,e≠61)(s:Int):aBt (jd name s)=(name,Lib.itoa s,true):=by
  unfold jd
  rw [ia]
  exact aCa c
end Go.LK.B1
namespace Go.LK.h7
open Go Go.LK Go.LK.B1
def aBw:List fB:=[[108,111,119],[104,105,103,104],[99,117,116],[108,105,102,116],[102,108,111,111,114],[116,117,114,110],[100,119,101,108,108]]
def aCl:∀ j∈aBw,∀ e∈j,ic e=false∧¬(e.toNat:Int)=35:=by decide
def aCk:∀ j∈aBw,∀ e∈j,e≠61:=by decide
def aBu(f:List Int):List fB:=(aBw.zip f).map fun n=>jd n.1 n.2
def text(f:List Int):fB:=Lib.join (aBu f) [32]
def aB3{f:List Int}(c:f.length=7):(aBu f).length=7:=by simp [aBu,aBw,c]
def aCD{f:List Int}{d:Nat}{s:fB}{e:Int}(aw:aBw[d]?=some s)(Q:f[d]?=some e):(aBu f)[d]?=some (jd s e):=by
  unfold aBu
  rw [hy,show (aBw.zip f)[d]?=some (s,e) from K0.2 ⟨aw,Q⟩];rfl
def aCE{f:List Int}{j:fB}(c:j∈aBu f):∃ s∈aBw,∃ e∈f,j=jd s e:=by
  obtain ⟨⟨s,e⟩,ad,rfl⟩:=bx.1 c
  exact ⟨s,(List.of_mem_zip ad).1,e,(List.of_mem_zip ad).2,rfl⟩
def aCF{f:List Int}:∀ j∈aBu f,Te j:=fun j c=>by
  obtain ⟨s,aw,e,_,rfl⟩:=aCE c
  exact aCq (aCl s aw) e
def pw(f:List Int):Prop:=∀ e∈f,L6.ik e
def of(dc:List fB):Nat→Option (List Int)
  | 0=>some []
  | d+1=>match of dc d,dc[d]?,aBw[d]? with
    | some kL,some j,some s=>if (aBt j).1=s∧(L6.GR (aBt j).2.1).2=0 then some (kL++[(L6.GR (aBt j).2.1).1]) else none
    | _,_,_=>none
section
variable {dc:List fB} {d:Nat} {kL:List Int} {j s:fB}
def aCo(c:of dc d=some kL)(bU:dc[d]?=some j)(aw:aBw[d]?=some s)(G:(aBt j).1=s)(J:(L6.GR (aBt j).2.1).2=0):of dc (d+1)=some (kL++[(L6.GR (aBt j).2.1).1]):=by
  simp [of,c,bU,aw,G,J]
end
def aB5:List Int:=[0,0,0,0,0,0,0]
def GR(H:fB):List Int×Int:=if (Cn H).length=7 then (match of (Cn H) 7 with|some kL=>(kL,0)|none=>(aB5,2)) else (aB5,2)
def aCr{H:fB}{kL:List Int}(gi:(Cn H).length=7)(c:of (Cn H) 7=some kL):GR H=(kL,0):=by rw [GR,ee gi,c]
def aBV{f:List Int}(c:f.length=7)(hf:pw f):∀ d,d≤7→of (aBu f) d=some (f.take d)
  | 0,_=>rfl
  | d+1,R=>by
    have b6:=aBV c hf d E
    obtain ⟨s,aw⟩:∃ s,aBw[d]?=some s:=⟨_,et (by show d < 7;omega)⟩
    obtain ⟨e,Q⟩:∃ e,f[d]?=some e:=⟨_,et E⟩
    have aS:=aCp (aCk s (eF aw)) e
    have ad:=L6.aCt (hf e (eF Q))
    rw [aCo b6 (aCD aw Q) aw (by rw [aS]) (by rw [aS,ad]),aS,ad]
    obtain ⟨ca,rfl⟩:=dD.1 Q
    rw [zb ca]
def aCG{f:List Int}(c:f.length=7)(H:fB)(W:H=[]∨(∃ i u,H=i :: u∧(ic i=true∨(i.toNat:Int)=35))):Cn (text f++H)=aBu f++Cn H :=
  aB1 (aBu f) H (fun aC=>by have:=aB3 c;rw [aC] at this;cases this) aCF W
def aCu{H:fB}{f:List Int}(c:f.length=7)(hf:pw f)(bU:Cn H=aBu f):GR H=(f,0):=by
  have gi:=aB3 c
  refine (aCr (by rw [bU,gi]) (kL:=f.take 7) (by rw [bU];exact aBV c hf 7 (oQ _))).trans ?_
  rw [ir E]
def o3{f:List Int}(c:f.length=7)(hf:pw f):GR (text f)=(f,0):=aCu c hf (by
  have:=aCG c [] (.inl rfl)
  simpa [aCC] using this)
def ok(f:List Int)(t:Int):Bool:=match f with
  | [l,p,i,y,r,z,L]=>decide (1≤t)&&decide (t≤128)&&decide (0≤l)&&decide (l≤p)&&decide (0≤p)&&decide (p≤10000)&&decide (1≤i)&&decide (i≤99)&&decide (1≤y)&&decide (y≤100)&&decide (0≤r)&&decide (r≤t)&&decide (1≤z)&&decide (z≤32)&&decide (1≤L)&&decide (L≤32)
  | _=>false
def e7(f:List Int)(t:Int):Int:=if ok f t then 0 else 10
section
variable {l p i y r z L t:Int}
def SL(l p i y r z L t:Int):Prop:=1≤t∧t≤128∧0≤l∧l≤p∧0≤p∧p≤10000∧1≤i∧i≤99∧1≤y∧y≤100∧0≤r∧r≤t∧1≤z∧z≤32∧1≤L∧L≤32
def PB:ok [l,p,i,y,r,z,L] t=true↔SL l p i y r z L t:=by
  simp only [ok,h6,decide_eq_true_eq,SL]
  constructor
  · rintro ⟨⟨⟨⟨⟨⟨⟨⟨⟨⟨⟨⟨⟨⟨⟨G,J⟩,aA⟩,aZ⟩,bT⟩,c7⟩,gi⟩,dL⟩,h2⟩,hN⟩,lR⟩,nc⟩,qn⟩,qX⟩,yh⟩,oE⟩
    exact ⟨G,J,aA,aZ,bT,c7,gi,dL,h2,hN,lR,nc,qn,qX,yh,oE⟩
  · rintro ⟨G,J,aA,aZ,bT,c7,gi,dL,h2,hN,lR,nc,qn,qX,yh,oE⟩
    exact ⟨⟨⟨⟨⟨⟨⟨⟨⟨⟨⟨⟨⟨⟨⟨G,J⟩,aA⟩,aZ⟩,bT⟩,c7⟩,gi⟩,dL⟩,h2⟩,hN⟩,lR⟩,nc⟩,qn⟩,qX⟩,yh⟩,oE⟩
def MR(c:1≤t∧t≤128∧0≤l∧l≤p∧0≤p∧p≤10000∧1≤i∧i≤99∧1≤y∧y≤100∧0≤r∧r≤t∧1≤z∧z≤32∧1≤L∧L≤32):e7 [l,p,i,y,r,z,L] t=0:=by
  rw [e7,ee (PB.2 c)]
def MQ(c:¬(1≤t∧t≤128∧0≤l∧l≤p∧0≤p∧p≤10000∧1≤i∧i≤99∧1≤y∧y≤100∧0≤r∧r≤t∧1≤z∧z≤32∧1≤L∧L≤32)):e7 [l,p,i,y,r,z,L] t=10:=by
  rw [e7,be fun aS=>c (PB.1 aS)]
end
def apl{f:List Int}{l p i y r z L:Int}(c:f.length=7)(bB:f[0]?=some l)(G:f[1]?=some p)(J:f[2]?=some i)(aA:f[3]?=some y)(aZ:f[4]?=some r)(bT:f[5]?=some z)(c7:f[6]?=some L):f=[l,p,i,y,r,z,L]:=by
  match f,c with
  | [_,_,_,_,_,_,_],_=>simp at bB G J aA aZ bT c7;simp [bB,G,J,aA,aZ,bT,c7]
end Go.LK.h7
namespace Go.LK
open Go
structure cG where
  O:Int
  aR:Int
  jr:Int
  dr:Int
def cG.cells(r:cG):List Value:=[r.O,r.aR,r.jr,r.dr]
def cG.one{f:List cG}:∀ l∈f,(cG.cells l).all Value.oneCell'=true:=fun _ _=>rfl
end Go.LK
namespace Go.LK.aQ
open Go Go.LK Go.LK.B1
def aua(Dq:fB)(gm:List fB)(f:List Int):List fB:=Dq :: (gm.zip f).map fun n=>jd n.1 n.2
def row(Dq:fB)(gm:List fB)(f:List Int):fB:=Lib.join (aua Dq gm f) [32]
section
variable {Dq:fB} {gm:List fB} {f:List Int} {d:Nat} {s:fB} {e:Int}
end
section
variable {dc gm:List fB} {d:Nat} {kL:List Int} {j s:fB}
end
section
variable {aAV Dq:fB} {gm:List fB} {d:Nat} {kL:List Int} {j s r:fB}
end
def cg(s l p:Int):Bool:=decide (l≤s)&&decide (s≤p)
def right(i:cG)(bm al dl:Int):Bool:=cg i.O 0 (dl-1)&&!decide (i.O=al)&&cg i.aR 0 bm&&cg i.jr 1 8&&cg i.dr 1 65535
def kZ(ay:List cG)(bm al dl:Int):Nat→Bool
  | 0=>true
  | d+1=>kZ ay bm al dl d&&(match ay[d]? with
    | some i=>!((ay.take d).any fun y=>decide (y.O=i.O))&&right i bm al dl
    | none=>true)
def nu(ay:List cG)(bm al dl:Int):Bool:=decide (ay.length≤6)&&kZ ay bm al dl ay.length
section
variable {ay:List cG} {bm al dl:Int} {d:Nat} {i:cG}
def XD(c:kZ ay bm al dl d=true)(aS:ay[d]?=some i)(G:((ay.take d).any fun y=>decide (y.O=i.O))=false)(J:right i bm al dl=true):kZ ay bm al dl (d+1)=true:=by
  simp [kZ,c,aS,G,J]
def ark(aS:ay[d]?=some i)(av:((ay.take d).any fun y=>decide (y.O=i.O))=true∨right i bm al dl=false):∀ t,d < t→kZ ay bm al dl t=false:=by
  intro t
  induction t with
  | zero=>intro c;omega
  | succ t b6 =>
    intro bh
    by_cases aC:t=d
    · subst aC
      rcases av with av|av<;>simp [kZ,aS,av]
    · simp [kZ,b6 E]
def ahv(c:6 < ay.length):nu ay bm al dl=false:=by simp [nu];intro J;omega
def MN(aS:ay[d]?=some i)(av:((ay.take d).any fun y=>decide (y.O=i.O))=true∨right i bm al dl=false):nu ay bm al dl=false:=by
  have:=ark aS av ay.length (dD.1 aS).1
  simp [nu,this]
def aht(c:kZ ay bm al dl d=true)(R:¬d < ay.length)(kE:d≤ay.length)(c7:¬6 < ay.length):nu ay bm al dl=true:=by
  have:d=ay.length:=by omega
  subst this
  simp [nu,c];omega
end
def Kc(f:List Int):Bool:=match f with
  | [l,p,i,y,r,z,_,_,_,_,_,_,_]=>cg l 1 16&&cg p 1 64&&cg i 1 64&&cg y 0 7&&cg r 0 256&&cg z 0 1099511627776
  | _=>false
def e7(f:List Int)(ay:List cG)(al dl lA:Int):Int :=
  if cg dl 1 8&&cg al 0 (dl-1)&&Kc f&&nu ay ((f[3]?).getD 0) al dl then h7.e7 (f.drop 6) lA else 10
def AO(n:cG→Bool)(f:List cG):Int:=match f.findIdx? n with|some d=>d|none=>-1
def anA{n:cG→Bool}{f:List cG}:decide (0≤AO n f)=f.any n:=by
  unfold AO
  cases c:f.findIdx? n with
  | none =>
    rw [KL] at c
    have:f.any n=false:=K'.2 fun e Q=>by simpa using c e Q
    rw [this];decide
  | some d =>
    obtain ⟨R,ad,_⟩:=nS.1 c
    have:f.any n=true:=vV.2 ⟨f[d],List.getElem_mem R,ad⟩
    rw [this,decide_eq_true_eq]
    exact Int.natCast_nonneg d
def anB{n:cG→Bool}{f:List cG}{d:Nat}(aw:∀ k e,k < d→f[k]?=some e→n e=false)(R:¬d < f.length):AO n f=-1:=by
  unfold AO
  rw [KL.2 fun e Q=>by
    obtain ⟨k,ag⟩:=kw.1 Q
    have ca:=(dD.1 ag).1
    simp [aw k e E ag]]
def anz{n:cG→Bool}{f:List cG}{d:Nat}{r:cG}(aw:∀ k e,k < d→f[k]?=some e→n e=false)(aC:f[d]?=some r)(c:n r=true):AO n f=d:=by
  unfold AO
  obtain ⟨ca,rfl⟩:=dD.1 aC
  rw [nS.2 ⟨ca,c,fun k ag=>by
    have:=aw k f[k] ag (et E)
    simp [this]⟩]
def yc{s l p:Int}(c:cg s l p=true):l≤s∧s≤p:=by simpa [cg] using c
def MR{f:List Int}{ay:List cG}{al dl lA:Int}(G:cg dl 1 8=true)(J:cg al 0 (dl-1)=true)(aA:Kc f=true)(aZ:nu ay ((f[3]?).getD 0) al dl=true):e7 f ay al dl lA=h7.e7 (f.drop 6) lA:=by
  simp [e7,G,J,aA,aZ]
def MQ{f:List Int}{ay:List cG}{al dl lA:Int}(c:(cg dl 1 8&&cg al 0 (dl-1)&&Kc f&&nu ay ((f[3]?).getD 0) al dl)=false):e7 f ay al dl lA=10:=by
  rw [e7,c];rfl
end Go.LK.aQ
namespace Go.LK
open Go Go.RowKit
structure cj where
  bK:Int
  bV:Int
  b8:Int
  bG:Int
  ch:Int
  b':Int
  cf:Int
  er:Int
  es:Int
  d':Int
  eO:Int
  eP:Int
  eQ:Int
  dA:Value
  cW:List cG
  ok:dA.oneCell'=true
def cj.of(H:cj):List Int:=[H.bK,H.bV,H.b8,H.bG,H.ch,H.b',H.cf,H.er,H.es,H.d',H.eO,H.eP,H.eQ]
def cj.cells(H:cj):List Value:=[H.bK,H.bV,H.b8,H.bG,H.ch,H.b',H.cf,H.er,H.es,H.d',H.eO,H.eP,H.eQ,H.dA]
def cj.one{f:List cj}:∀ l∈f,(cj.cells l).all Value.oneCell'=true:=fun l _=>by
  simp only [cj.cells,k8,ri,l.ok];rfl
def cj.row(Y:Nat)(H:cj):aB:=LK.row H.dA Y 4 (H.cW.map cG.cells)
def cj.bF(H:cj):aB:=LK.bF H.dA 4 (H.cW.map cG.cells)
def au_{Y:Nat}{f:List cj}:∀ j,(c1 (f.map (cj.row Y))).holds j→(hZ (f.map cj.bF)).holds j∧∀ d∈(hZ (f.map cj.bF)).dT,d∈(c1 (f.map (cj.row Y))).dT:=TM fun _ _=>jz
def Ky{f:List cG}{d:Nat}{i:cG}(c:f[d]?=some i):(f.map cG.O)[d]?=some i.O:=by rw [hy,c];rfl
structure SK where
  m:Value
  f:List Int
def SK.bF(e:SK):aB:=LK.bF e.m 1 (e.f.map bH)
abbrev f_(f:List cj):List (List Int):=f.map fun H=>H.cW.map cG.O
def z1{f:List cj}:(f_ f).length=f.length:=fc _
def Nq{f:List cj}{b:Nat}{H:cj}(c:f[b]?=some H):(f_ f)[b]?=some (H.cW.map cG.O):=by unfold f_;rw [hy,c];rfl
end Go.LK
namespace Go.LK.dV
open Go Go.LK
section
variable {L:List (List Int)} {cW:List Int} {z e u:Int} {b k d A s n:Nat} {v:List Nat}
def Ce(s:Nat)(v:List Int)(u:Int):List Int:=if 0≤u∧u < (s:Int)∧u∉v then v++[u] else v
def tS(s:Nat)(cW:List Int)(d:Nat):List Int:=(cW.take d).foldl (Ce s) []
def j5(L:List (List Int))(z:Int):List Int:=if z < 0∨(L.length:Int)≤z then [] else (L.getD z.toNat []).foldl (Ce L.length) []
def ahs(c:z < 0∨(L.length:Int)≤z):j5 L z=[]:=ee c
def ahr(bB:¬z < 0)(G:¬(L.length:Int)≤z)(Q:L[z.toNat]?=some cW)(R:¬d < cW.length):tS L.length cW d=j5 L z:=by
  unfold j5 tS
  rw [be E,ir E,ps,Q];rfl
def ahq(Q:cW[d]?=some u)(bB:0≤u)(G:u < (s:Int))(J:u∉tS s cW d):tS s cW (d+1)=tS s cW d++[u]:=by
  unfold tS at J ⊢
  rw [hx,Q,p6]
  exact ee ⟨bB,G,J⟩
def ahp(Q:cW[d]?=some u)(c:¬(0≤u∧u < (s:Int)∧u∉tS s cW d)):tS s cW (d+1)=tS s cW d:=by
  unfold tS at c ⊢
  rw [hx,Q,p6]
  exact be c
def Xj:∀ {cW v:List Int},e∈cW.foldl (Ce s) v↔e∈v∨(e∈cW∧0≤e∧e < (s:Int))
  | [],v=>by simp
  | u :: cW,v=>by
    rw [DA,Xj]
    unfold Ce
    by_cases c:0≤u∧u < (s:Int)∧u∉v
    · rw [ee c,iE,nm,fb]
      constructor
      · rintro ((G|G)|G)
        · exact .inl G
        · subst G;exact .inr ⟨.inl rfl,c.1,c.2.1⟩
        · exact .inr ⟨.inr G.1,G.2⟩
      · rintro (G|⟨G|G,J⟩)
        · exact .inl (.inl G)
        · exact .inl (.inr G)
        · exact .inr ⟨G,J⟩
    · rw [be c,fb]
      constructor
      · rintro (G|G)
        · exact .inl G
        · exact .inr ⟨.inr G.1,G.2⟩
      · rintro (G|⟨G|G,J⟩)
        · exact .inl G
        · subst G
          exact .inl (zc fun aw=>c ⟨J.1,J.2,aw⟩)
        · exact .inr ⟨G,J⟩
def Xw:∀ {cW v:List Int},v.Nodup→(cW.foldl (Ce s) v).Nodup
  | [],_,c=>c
  | u :: cW,v,c=>by
    rw [DA]
    refine Xw ?_
    unfold Ce
    split
    · rename_i aS
      exact lm.2 ⟨c,by simp,fun l V p av=>by simp at av;subst av;exact fun r=>aS.2.2 (r ▸ V)⟩
    · exact c
def Jn:e∈j5 L z↔∃ b k:Nat,z=b∧e=k∧r L b k=true:=by
  unfold j5
  by_cases c:z < 0∨(L.length:Int)≤z
  · rw [ee c]
    constructor
    · intro Q;simp at Q
    · rintro ⟨b,k,rfl,_,aC⟩
      have:=(ql aC).1
      omega
  · rw [be c,Xj]
    simp only [oq,false_or]
    constructor
    · rintro ⟨G,J,aA⟩
      refine ⟨z.toNat,e.toNat,by omega,by omega,?_⟩
      unfold r
      simp only [h6,decide_eq_true_eq,y']
      exact ⟨⟨by omega,by omega⟩,by rw [show ((e.toNat:Nat):Int)=e from by omega];exact G⟩
    · rintro ⟨b,k,rfl,rfl,aC⟩
      have S:=ql aC
      unfold r at aC
      simp only [h6,decide_eq_true_eq,y'] at aC
      exact ⟨by simpa using aC.2,by omega,by omega⟩
def Xi:(k:Int)∈j5 L (b:Int)↔r L b k=true:=by
  rw [Jn]
  constructor
  · rintro ⟨l,p,G,J,aA⟩
    have V:l=b:=by omega
    have av:p=k:=by omega
    rw [←V,←av];exact aA
  · exact fun c=>⟨b,k,rfl,rfl,c⟩
def MM:(j5 L z).Nodup:=by
  unfold j5;split
  · simp
  · exact Xw oU
def ML(c:(j5 L z)[A]?=some u):∃ k:Nat,u=k∧k < L.length:=by
  obtain ⟨b,k,_,J,aA⟩:=Jn.1 (eF c)
  exact ⟨k,J,(ql aA).2⟩
def TT:(j5 L z).length≤L.length:=by
  have:=Jx (ey:=j5 L z) (f:=(List.range L.length).map fun (s:Nat)=>(s:Int)) MM fun d R=>by
    obtain ⟨b,k,_,rfl,c⟩:=Jn.1 R
    exact bx.2 ⟨k,kd.2 (ql c).2,rfl⟩
  simpa using this
def bb(L:List (List Int))(l p:Int):Bool:=decide (0≤l)&&decide (l < (L.length:Int))&&decide (0≤p)&&decide (p < (L.length:Int))&&(L.getD l.toNat []).contains p
def MO:bb L (b:Int) (k:Int)=r L b k:=by
  unfold bb r
  rw [KM]
  simp only [h6,decide_eq_true_eq,GX]
  constructor
  · rintro ⟨⟨⟨⟨_,G⟩,_⟩,J⟩,aA⟩
    exact ⟨⟨by omega,by omega⟩,aA⟩
  · rintro ⟨⟨G,J⟩,aA⟩
    exact ⟨⟨⟨⟨by omega,by omega⟩,by omega⟩,by omega⟩,aA⟩
def ahx{l p:Int}(c:l < 0∨(L.length:Int)≤l∨p < 0∨(L.length:Int)≤p):bb L l p=false:=by
  rw [Bool.eq_false_iff]
  intro aS
  unfold bb at aS
  simp only [h6,decide_eq_true_eq] at aS
  omega
def TU{l p:Int}(c:¬(l < 0∨(L.length:Int)≤l∨p < 0∨(L.length:Int)≤p))(Q:L[l.toNat]?=some cW):bb L l p=decide (p∈cW):=by
  unfold bb
  rw [KM]
  simp only [h6,decide_eq_true_eq,y',ps,Q,QT]
  constructor
  · exact fun c=>c.2
  · exact fun gH=>⟨by omega,gH⟩
def iA(s:Nat)(qa:Nat→Int):List Int:=(List.range s).map qa
def Gg{qa:Nat→Int}:(iA s qa).length=s:=by simp [iA]
def yZ{qa:Nat→Int}(c:k < s):(iA s qa)[k]?=some (qa k):=by simp [iA,c]
def Dk{qa fO:Nat→Int}(c:∀ k,k < s→qa k=fO k):iA s qa=iA s fO:=GW fun k ag=>c k (kd.1 ag)
def P0{qa:Nat→Int}:(iA s qa).set k e=iA s fun b=>if b=k then e else qa b:=by
  apply xz
  intro b
  rw [qH]
  unfold iA
  simp only [hy,fc,DB]
  by_cases ac:b < s
  · by_cases ag:k=b
    · subst ag;simp [ac]
    · have:¬b=k:=fun r=>ag r.symm
      simp [ag,ac,this]
  · by_cases ag:k=b
    · subst ag;simp [ac]
    · simp [ag,ac]
def x8(L:List (List Int))(b k:Nat):Nat:=((List.range b).filter fun i=>r L i k).length
def pq(L:List (List Int))(b A:Nat):List Int:=iA L.length fun k=>(x8 L b k:Int)+if (k:Int)∈(j5 L (b:Int)).take A then 1 else 0
def aii:x8 L (b+1) k=x8 L b k+if r L b k then 1 else 0:=by
  unfold x8;rw [rm,jg,eh]
  cases c:r L b k<;>simp [c]
def aw0:List.replicate L.length 0=pq L 0 0:=by
  refine (List.eq_replicate_iff.2 ⟨by simp [pq,iA],fun p av=>?_⟩).symm
  unfold pq iA at av
  obtain ⟨k,_,rfl⟩:=bx.1 av
  simp [x8]
end
end Go.LK.dV
namespace Go.LK.dV
open Go Go.LK
section
variable {L:List (List Int)} {u e:Int} {b k d A s n t:Nat} {v:List Nat}
def Zx{f:List Int}(aw:f.Nodup)(a6:f[A]?=some u):u∉f.take A∧∀ F,F∈f.take (A+1)↔F∈f.take A∨F=u:=by
  constructor
  · intro c
    obtain ⟨b,ac⟩:=kw.1 c
    rw [k6] at ac
    split at ac
    · rename_i ca
      have G:=(dD.1 ac)
      have J:=(dD.1 a6)
      obtain ⟨l,V⟩:=G
      obtain ⟨p,av⟩:=J
      have:=GH.1 aw b A l p ca
      exact this (V.trans av.symm)
    · cases ac
  · intro F
    rw [hx,a6,iE];simp
def awY(a6:(j5 L (b:Int))[A]?=some u)(Q:(pq L b A)[u.toNat]?=some e):(pq L b A).set u.toNat (e+1)=pq L b (A+1):=by
  obtain ⟨k,rfl,ag⟩:=ML a6
  rw [GX] at Q ⊢
  obtain ⟨G,J⟩:=Zx MM a6
  unfold pq at Q ⊢
  rw [yZ ag] at Q
  rw [P0]
  refine Dk fun r0 _=>?_
  by_cases aC:r0=k
  · subst aC
    rw [ee rfl,←p8 Q,be G,ee ((J _).2 (.inr rfl))];omega
  · rw [be aC]
    have ea:¬(r0:Int)=k:=by omega
    have:(r0:Int)∈(j5 L (b:Int)).take (A+1)↔(r0:Int)∈(j5 L (b:Int)).take A:=by rw [J];simp [ea]
    simp only [this]
def awZ(c:(j5 L (b:Int)).length≤A):pq L b A=pq L (b+1) 0:=by
  unfold pq
  refine Dk fun k _=>?_
  rw [ir c,aii]
  simp only [Xi,K5,oq,if_false]
  split<;>simp_all
def oL(L:List (List Int))(v:List Nat):List Int:=iA L.length fun k=>if k∈v then -1 else (pG L v k:Int)
def awW:pq L L.length 0=oL L []:=by
  unfold pq oL
  refine Dk fun k _=>?_
  simp only [K5,oq,if_false,x8,pG]
  simp
def aih:x8 L b k≤b:=by unfold x8;exact iZ (kv _ _) oU
def ahS:pG L v k≤L.length:=by unfold pG;exact iZ (kv _ _) oU
def Z1:(pq L b A).length=L.length:=Gg
def O8:(oL L v).length=L.length:=Gg
def awX(Q:(pq L b A)[t]?=some e):0≤e∧e≤b+1:=by
  have bh:t < L.length:=by have:=(dD.1 Q).1;rwa [Z1] at this
  unfold pq at Q
  rw [yZ bh] at Q
  have:=aih (L:=L) (b:=b) (k:=t)
  have J:=p8 Q
  split at J<;>omega
def sZ(L:List (List Int))(v:List Nat)(n A:Nat):List Int:=iA L.length fun k=>if k∈v++[n] then -1 else (pG L v k:Int)-if (k:Int)∈(j5 L (n:Int)).take A then 1 else 0
def W':(sZ L v n A).length=L.length:=Gg
def apf(Q:(sZ L v n A)[t]?=some e):-1≤e∧e≤L.length:=by
  have bh:t < L.length:=by have:=(dD.1 Q).1;rwa [W'] at this
  unfold sZ at Q
  rw [yZ bh] at Q
  have:=ahS (L:=L) (v:=v) (k:=t)
  have J:=p8 Q
  split at J
  · omega
  · split at J<;>omega
def api:(oL L v).set n (-1)=sZ L v n 0:=by
  unfold oL sZ
  rw [P0]
  refine Dk fun k _=>?_
  by_cases c:k=n
  · simp [c]
  · by_cases J:k∈v<;>simp [c,J]
def aph(bw:jp L d=some v)(ad:pick L v=some n)(a6:(j5 L (n:Int))[A]?=some u)(Q:(sZ L v n A)[u.toNat]?=some e):(sZ L v n A).set u.toNat (e-1)=sZ L v n (A+1):=by
  obtain ⟨l,k,V,ue,aC⟩:=Jn.1 (eF a6)
  have akc:l=n:=by omega
  subst akc ue
  have ag:=(ql aC).2
  rw [GX] at Q ⊢
  obtain ⟨G,J⟩:=Zx MM a6
  obtain ⟨hu,oF,Fr⟩:=A5 ad
  have kX:k∉v++[l]:=by
    intro cN
    rcases iE.1 cN with cN|cN
    · exact oF (JJ bw k cN l aC)
    · simp at cN;subst cN
      exact oF (Fr _ aC)
  unfold sZ at Q ⊢
  rw [yZ ag,be kX,be G] at Q
  rw [P0]
  refine Dk fun r0 _=>?_
  by_cases Ao:r0=k
  · subst Ao
    rw [ee rfl,←p8 Q,be kX,ee ((J _).2 (.inr rfl))];omega
  · rw [be Ao]
    have ea:¬(r0:Int)=k:=by omega
    have:(r0:Int)∈(j5 L (l:Int)).take (A+1)↔(r0:Int)∈(j5 L (l:Int)).take A:=by rw [J];simp [ea]
    simp only [this]
def T'{z:Nat→Bool}:∀ {f:List Nat},f.Nodup→n∈f→(f.filter z).length=(f.filter fun i=>z i&&!(i == n)).length+if z n then 1 else 0
  | [],_,c=>by simp at c
  | i :: f,aw,c=>by
    have mK:=kP.1 aw
    by_cases aS:i=n
    · subst aS
      have:f.filter (fun y=>z y&&!(y == i))=f.filter z:=KO fun y ao=>by
        have:¬y=i:=fun r=>mK.1 (r ▸ ao)
        simp [this]
      rw [nR,nR,this]
      cases bc:z i<;>simp
    · have bh:n∈f:=by
        rcases fb.1 c with c|c
        · exact absurd c.symm aS
        · exact c
      have b6:=T' (z:=z) mK.2 bh
      rw [nR,nR]
      cases bc:z i
      · simpa [bc] using b6
      · simp only [if_true,bc,aS,beq_iff_eq,KQ,uN,e6]
        have av:(i == n)=false:=by simpa using aS
        rw [av]
        simp only [if_true,e6]
        omega
def ahT(ad:n < L.length)(bw:n∉v):pG L v k=pG L (v++[n]) k+if r L n k then 1 else 0:=by
  unfold pG
  rw [T' (n:=n) tp (kd.2 ad)]
  have:(fun i=>(r L i k&&!v.contains i)&&!(i == n))=fun i=>r L i k&&!(v++[n]).contains i:=by
    funext i
    by_cases aS:i=n<;>simp [aS]
  rw [this]
  simp [bw]
def apg(ad:pick L v=some n)(c:(j5 L (n:Int)).length≤A):sZ L v n A=oL L (v++[n]):=by
  obtain ⟨hu,oF,_⟩:=A5 ad
  unfold sZ oL
  refine Dk fun k _=>?_
  rw [ir c]
  have:=ahT (k:=k) hu oF
  simp only [Xi]
  split
  · rfl
  · split<;>simp_all<;>omega
def WC{C1:Int}(c:bn.oX (oL L v) 0 C1)(R:C1 < 0):pick L v=none:=by
  rcases c with ⟨_,c⟩|⟨s,rfl,_⟩
  · refine ar0 fun k ag=>?_
    by_cases kX:k∈v
    · exact .inl kX
    · refine .inr fun aS=>c ?_
      refine eF (i:=k) ?_
      unfold oL
      rw [yZ ag,be kX,aS];rfl
  · omega
def anr{C1:Int}(c:bn.oX (oL L v) 0 C1)(R:¬C1 < 0):∃ n:Nat,C1=n∧pick L v=some n:=by
  rcases c with ⟨rfl,_⟩|⟨s,rfl,G,J⟩
  · omega
  · have aw:s < L.length:=by have:=(dD.1 G).1;rwa [O8] at this
    refine ⟨s,rfl,arX aw ?_ ?_ fun k ag=>?_⟩
    · intro cN
      unfold oL at G
      rw [yZ aw,ee cN] at G;simp at G
    · unfold oL at G
      rw [yZ aw] at G
      split at G<;>simp at G
      omega
    · by_cases kX:k∈v
      · exact .inl kX
      · refine .inr fun aS=>?_
        refine J k ag _ (show (oL L v)[k]?=some ((pG L v k:Int)) from ?_) (by rw [aS];rfl)
        unfold oL
        rw [yZ E,be kX]
def Da(L:List (List Int)):List Int:=((jp L L.length).getD []).map fun (s:Nat)=>(s:Int)
def arw(c:jp L L.length=some v):Da L=v.map fun (s:Nat)=>(s:Int):=by unfold Da;rw [c];rfl
def arv(c:jp L L.length=none):Da L=[]:=by unfold Da;rw [c];rfl
def ary(bw:jp L d=some v)(ad:pick L v=some n):jp L (d+1)=some (v++[n]):=by simp [jp,bw,ad]
def XQ(bw:jp L d=some v)(ad:pick L v=none)(R:d < L.length):jp L L.length=none:=arz (d:=d+1) (by simp [jp,bw,ad]) _ E
def atE:(vz L b).length≤L.length:=by
  unfold vz;rw [fc];exact iZ (kv _ _) oU
def Yr:(b:Int)∈vz L b↔lr (r L) b b:=by
  rw [apz]
  constructor
  · rintro ⟨k,c,ad⟩
    have:k=b:=by omega
    exact this ▸ ad
  · exact fun c=>⟨b,rfl,c⟩
end
end Go.LK.dV
namespace Go.LK.aQ
open Go Go.LK Go.LK.B1
section
variable {Dq:fB} {gm:List fB} {f:List Int}
end
section
variable {s:List Int} {ay:List cG} {d:Nat} {r:fB}
end
section
variable {bi:Type} {n:bi→Prop} {f:List bi} {d:Nat} {r:bi}
end
section
variable {bi:Type} {z:bi→List Int} {f t:List bi} {d:Nat} {e F:bi}
end
def one(s:Int):List Int:=[s]
def aoN(f:List Int)(t:Int):h7.e7 f t=0∨h7.e7 f t=10:=by unfold h7.e7;split<;>simp
def agw{ay:List cG}{k:Nat}{i y:cG}(c:((ay.take k).any fun y=>decide (y.O=i.O))=false)(ao:ay[k]?=some y)(ea:¬y.O=i.O):((ay.take (k+1)).any fun y=>decide (y.O=i.O))=false:=by
  rw [hx,ao,List.any_append,c];simp [ea]
def agv{ay:List cG}{b k:Nat}{i y:cG}(ao:ay[k]?=some y)(ag:k < b)(aC:y.O=i.O):((ay.take b).any fun y=>decide (y.O=i.O))=true:=by
  refine vV.2 ⟨y,?_,by simp [aC]⟩
  exact eF (i:=k) (by rw [k6,ee ag,ao])
def ahG{f:List Int}{ay:List cG}{al dl lA:Int}(c:¬h7.e7 (f.drop 6) lA=0):e7 f ay al dl lA=10:=by
  unfold e7
  split
  · rcases aoN (f.drop 6) lA with J|J
    · exact absurd J c
    · exact J
  · rfl
def ahu{ay:List cG}{bm al dl:Int}{d:Nat}(c:kZ ay bm al dl d=true)(R:¬d < ay.length)(kE:d≤ay.length):nu ay bm al dl=decide ((ay.length:Int)≤6):=by
  have:d=ay.length:=by omega
  subst this
  rw [nu,c,jV,decide_eq_decide]
  omega
def ahF{bK bV b8 bG ch b' cf er es d' eO eP eQ:Int}{ay:List cG}{al dl lA:Int}(c:(cg dl 1 8&&cg al 0 (dl-1)&&(cg bK 1 16&&cg bV 1 64&&cg b8 1 64&&cg bG 0 7&&cg ch 0 256&&cg b' 0 1099511627776)&&nu ay bG al dl)=false):e7 [bK,bV,b8,bG,ch,b',cf,er,es,d',eO,eP,eQ] ay al dl lA=10:=MQ c
def TX{bK bV b8 bG ch b' cf er es d' eO eP eQ:Int}{ay:List cG}{al dl lA:Int}(G:cg dl 1 8=true)(J:cg al 0 (dl-1)=true)(aA:(cg bK 1 16&&cg bV 1 64&&cg b8 1 64&&cg bG 0 7&&cg ch 0 256&&cg b' 0 1099511627776)=true)(aZ:nu ay bG al dl=true):e7 [bK,bV,b8,bG,ch,b',cf,er,es,d',eO,eP,eQ] ay al dl lA=h7.e7 [cf,er,es,d',eO,eP,eQ] lA:=MR G J aA aZ
def ahH{bK bV b8 bG ch b' cf er es d' eO eP eQ:Int}{ay:List cG}{al dl lA:Int}(c:¬h7.e7 [cf,er,es,d',eO,eP,eQ] lA=0):e7 [bK,bV,b8,bG,ch,b',cf,er,es,d',eO,eP,eQ] ay al dl lA=10:=ahG c
abbrev db(Z:Bool)(i:cG):Bool:=decide (i.aR=0) == Z
end Go.LK.aQ
namespace Go.LK.dd
open Go Go.LK
def cc(s dr:Int):Int:=if 0 > (if dr < s then dr else s) then 0 else (if dr < s then dr else s)
def jc(l p:Int):Int:=cc (IntKind.i64.wrap (cc l 2147483647*cc p 2147483647)) 2147483647
def pi(p i:Int):Bool:=decide (1≤p)&&decide (p≤8)&&decide (1≤i)&&decide (i≤16)
def kZ(i Z:Int):Bool:=decide (1≤i)&&decide (i≤16)&&decide (1≤Z)&&decide (Z≤1099511627776)
section
variable {p i Z:Int} {f:List cj} {d:Nat} {r:cj}
def JE:pi p i=true↔1≤p∧p≤8∧1≤i∧i≤16:=by simp [pi,and_assoc]
def XC:kZ i Z=true↔1≤i∧i≤16∧1≤Z∧Z≤1099511627776:=by simp [kZ,and_assoc]
def ard(c:pi p i=false):¬(1≤p∧p≤8∧1≤i∧i≤16):=fun aw=>by rw [JE.2 aw] at c;cases c
def arl(c:kZ i Z=false):¬(1≤i∧i≤16∧1≤Z∧Z≤1099511627776):=fun aw=>by rw [XC.2 aw] at c;cases c
def yK(c:pi p i=true):1≤p*i∧p*i≤128:=by
  obtain ⟨G,J,aA,aZ⟩:=JE.1 c
  have wA:p*i≤8*i:=KT J E
  have tP:1*i≤p*i:=KT G E
  omega
def rE(p i:Int)(f:List cj)(d:Nat):Bool:=(List.range d).all fun b=>match f[b]? with
  | some H=>decide (aQ.e7 H.of H.cW (b:Int) (f.length:Int) (p*i)=0)
  | none=>true
noncomputable def nv (p i Z:Int) (f:List cj):Int:=if pi p i&&kZ i Z&&decide (1≤f.length)&&rE p i f f.length then dV.loops (f_ f) else 10
def TZ:rE p i f 0=true:=rfl
def TY(c:rE p i f d=true)(aC:f[d]?=some r)(aS:aQ.e7 r.of r.cW (d:Int) (f.length:Int) (p*i)=0):rE p i f (d+1)=true:=by
  unfold rE at c ⊢
  rw [rm,QN,c];simp [aC,aS]
def ahJ(aC:f[d]?=some r)(aS:¬aQ.e7 r.of r.cW (d:Int) (f.length:Int) (p*i)=0):rE p i f f.length=false:=by
  unfold rE
  rw [List.all_eq_false]
  exact ⟨d,kd.2 (dD.1 aC).1,by simp [aC,aS]⟩
def ahI(s:List Int)(ay:List cG)(b t m:Int):aQ.e7 s ay b t m=0∨aQ.e7 s ay b t m=10:=by
  unfold aQ.e7;split
  · unfold h7.e7;split
    · exact .inl rfl
    · exact .inr rfl
  · exact .inr rfl
def TW{s:List Int}{ay:List cG}{b t m:Int}(c:aQ.e7 s ay b t m=0):1≤t∧t≤8:=by
  unfold aQ.e7 at c
  split at c
  · rename_i aS
    simp only [h6] at aS
    exact aQ.yc aS.1.1.1
  · cases c
def ahM(c:pi p i=false):nv p i Z f=10:=be sg
def ahN(c:kZ i Z=false):nv p i Z f=10:=be sg
def T0(c:f.length=0):nv p i Z f=10:=be sg
def MS(aC:f[d]?=some r)(aS:¬aQ.e7 r.of r.cW (d:Int) (f.length:Int) (p*i)=0):nv p i Z f=10:=be (by rw [ahJ aC aS];simp)
def ahL(aC:f[d]?=some r)(aS:¬aQ.e7 r.of r.cW (d:Int) (f.length:Int) (p*i)=0):nv p i Z f=aQ.e7 r.of r.cW (d:Int) (f.length:Int) (p*i):=by
  rw [MS aC aS]
  rcases ahI r.of r.cW (d:Int) (f.length:Int) (p*i) with c|c
  · exact absurd c aS
  · exact c.symm
def ahO(c:8 < f.length):nv p i Z f=10:=by
  obtain ⟨r,aC⟩:∃ r,f[0]?=some r:=⟨_,et E⟩
  exact MS aC fun aS=>by have:=TW aS;omega
def ahK(G:pi p i=true)(J:kZ i Z=true)(aA:1≤f.length)(aZ:rE p i f d=true)(R:¬d < f.length)(kE:d≤f.length):nv p i Z f=dV.loops (f_ f):=by
  have:d=f.length:=by omega
  subst this
  exact ee (by simp [G,J,aA,aZ])
end
def Uy(f:List cj):Prop:=f.length≤10∧∀ H∈f,H.cW.length≤10
def aiT{f:List cj}{d:Nat}(aw:∀ (b:Nat) (H:cj),b < d→f[b]?=some H→H.cW.length≤10)(R:¬(d < f.length∧d < 10))(c:f.length≤10):Uy f:=⟨c,fun H W=>by
  obtain ⟨b,ac⟩:=kw.1 W
  exact aw b H (by have:=(dD.1 ac).1;omega) ac⟩
def aiU{f:List cj}{d:Nat}{r:cj}(aw:∀ (b:Nat) (H:cj),b < d→f[b]?=some H→H.cW.length≤10)(aC:f[d]?=some r)(c:r.cW.length≤10):∀ (b:Nat) (H:cj),b < d+1→f[b]?=some H→H.cW.length≤10:=fun b H ac W=>by
  rcases mR b d with G|G
  · exact aw b H G W
  · have:b=d:=by omega
    subst this;rw [aC] at W;cases W;exact c
def wF(f:List cj):List (List Int×List cG):=f.map fun H=>(H.of,H.cW)
def Bj(s d:Nat):List Int×List cG:=([1,4,10,1,64,20,1,4,10,5,1,3,2],if d+1 < s then [⟨(d:Int)+1,0,6,20⟩] else [])
def xi(s d:Nat):List (List Int×List cG):=(List.range d).map (Bj s)
def ZN{f:List cj}{s d:Nat}{r:cj}(c:wF f=xi s d)(aC:(r.of,r.cW)=Bj s d):wF (f++[r])=xi s (d+1):=by
  unfold xi at c ⊢
  unfold wF at c ⊢
  rw [rm,gR,gR,c]
  simp [aC]
def awC{s d:Nat}(c:(d:Int) < (s:Int)-1):Bj s d=([1,4,10,1,64,20,1,4,10,5,1,3,2],[⟨(d:Int)+1,0,6,20⟩]):=by unfold Bj;rw [ee E]
def awB{s d:Nat}(c:¬(d:Int) < (s:Int)-1):Bj s d=([1,4,10,1,64,20,1,4,10,5,1,3,2],[]):=by unfold Bj;rw [be E]
section
variable {f t:List cj} {d:Nat} {e F:cj} {p i Z ax4 fk aBb:Int} {s w5:Nat}
end
def Zj{Y:Nat}{X:Value}{aG:List cG}{f:List cj}{ah:List aB}{r:cj}(G:r.dA=X)(J:r.cW=aG):a' (row X Y 4 (aG.map cG.cells) :: c1 (f.map (cj.row Y)) :: ah) (c1 ((f++[r]).map (cj.row Y)) :: ah):=by
  subst G;subst J
  rw [gR];exact a'.I'
end Go.LK.dd
namespace Go.LK.g
open Go Go.LK
def le(l p:T):Prop:=¬ja p l < 0
def U1{l p:T}:ja l p < 0↔l.ck < p.ck∨l.ck=p.ck∧(l.seq < p.seq∨l.seq=p.seq∧l.id < p.id):=by
  unfold ja qk
  exact RJ
def AV{l p:T}:le l p↔l.ck < p.ck∨l.ck=p.ck∧(l.seq < p.seq∨l.seq=p.seq∧l.id≤p.id):=by
  unfold le;rw [U1];omega
def le_trans{l p i:T}(c:le l p)(gH:le p i):le l i:=by rw [AV] at *;omega
def le_refl(l:T):le l l:=by rw [AV];omega
def le_of_lt{l p:T}(c:ja l p < 0):le l p:=by rw [U1] at c;rw [AV];omega
structure jB (f t:List T) (l p:Int):Prop where
  n:t.Perm f
  v:∀ b:Nat,(b:Int) < l∨p≤b→t[b]?=f[b]?
section
variable {f t Z:List T} {l p i y:Int}
def jB.refl:jB f f l p:=⟨.refl _,fun _ _=>rfl⟩
def jB.trans(c:jB f t l p)(gH:jB t Z l p):jB f Z l p:=⟨gH.n.trans c.n,fun b ac=>(gH.v b ac).trans (c.v b ac)⟩
def jB.mono(c:jB f t l p)(G:i≤l)(J:p≤y):jB f t i y:=⟨c.n,fun b ac=>c.v b E⟩
def jB.len(c:jB f t l p):t.length=f.length:=c.n.length_eq
def jB.swap{b d:Int}{e F:T}(Q:f[b.toNat]?=some e)(az:f[d.toNat]?=some F)(bB:0≤b)(G:0≤d)(J:l≤b)(aA:l≤d)(aZ:b < p)(bT:d < p):jB f ((f.set b.toNat F).set d.toNat e) l p :=
  ⟨y3 Q az,fun k ag=>by rw [tn E,tn E]⟩
def jB.mem(c:jB f t l p)(bB:0≤l)(lw:l≤p)(av:p≤f.length){b:Nat}{e:T}(ac:l≤b)(sP:(b:Int) < p)(Q:t[b]?=some e):∃ k:Nat,l≤k∧(k:Int) < p∧f[k]?=some e:=by
  have S:=c.len
  have G:t.take l.toNat=f.take l.toNat:=xz fun d=>by
    rw [k6,k6];split
    · exact c.v d E
    · rfl
  have J:t.drop p.toNat=f.drop p.toNat:=xz fun d=>by
    rw [xx,xx];exact c.v _ E
  have dQ:t=t.take l.toNat++((t.take p.toNat).drop l.toNat++t.drop p.toNat):=by
    rw [←ia,←show (t.take p.toNat).take l.toNat=t.take l.toNat from by rw [GK];congr 1;omega,kQ,kQ]
  have bP:f=f.take l.toNat++((f.take p.toNat).drop l.toNat++f.drop p.toNat):=by
    rw [←ia,←show (f.take p.toNat).take l.toNat=f.take l.toNat from by rw [GK];congr 1;omega,kQ,kQ]
  have ad:=c.n
  rw [dQ,bP,G,J,List.perm_append_left_iff,List.perm_append_right_iff] at ad
  have bh:e∈(t.take p.toNat).drop l.toNat:=kw.2 ⟨b-l.toNat,by rw [xx,k6,ee E,show l.toNat+(b-l.toNat)=b from by omega];exact Q⟩
  obtain ⟨k,ag⟩:=kw.1 (ad.mem_iff.1 bh)
  rw [xx,k6] at ag
  split at ag
  · exact ⟨l.toNat+k,by omega,by omega,ag⟩
  · cases ag
def gL(f:List T)(l p:Int):Prop:=∀ (b k:Nat) (e F:T),l≤b→b < k→(k:Int) < p→f[b]?=some e→f[k]?=some F→le e F
def gL.one(c:p≤l+1):gL f l p:=fun b k e F G J aA=>by omega
def gL.cc(c:gL f i y)(V:jB f t l p)(ao:y≤l∨p≤i):gL t i y:=fun b k e F G J aA Q az =>
  c b k e F G J aA (by rw [←V.v b E];exact Q) (by rw [←V.v k E];exact az)
def gL.all(c:gL f 0 f.length):f.Pairwise le:=by
  rw [GH]
  intro b k ac ag mi
  exact c b k _ _ E mi E (et ac) (et ag)
def uU(f:List T)(l b k:Int):Prop:=∀ (n A:Nat) (e F:T),l≤n→n < A→(A:Int)≤b→(A:Int)≠k→f[n]?=some e→f[A]?=some F→le e F
def uU.start{b:Int}(c:gL f l b):uU f l b b:=fun n A e F G J aA aZ=>c n A e F G J E
def r_{b d n:Nat}{e F:T}(ac:b < f.length)(R:d < f.length):((f.set b F).set d e)[n]?=if n=d then some e else if n=b then some F else f[n]?:=by
  by_cases c:n=d
  · subst c;rw [ee rfl,xy (by simpa using R)]
  · rw [be c,tn (fun r=>c r.symm)]
    by_cases J:n=b
    · subst J;rw [ee rfl,xy ac]
    · rw [be J,tn (fun r=>J r.symm)]
def uU.step{b k:Int}{e F:T}(c:uU f l b k)(V:0≤l)(G:l < k)(J:k≤b)(Q:f[k.toNat]?=some e)(az:f[(k-1).toNat]?=some F)(bq:ja e F < 0):uU ((f.set k.toNat F).set (k-1).toNat e) l b (k-1):=fun n A aG m ad AE a6 ea bp ba=>by
  have ag:=(dD.1 Q).1
  have Aw:=(dD.1 az).1
  rw [r_ ag Aw] at bp ba
  by_cases hqj:A=k.toNat
  · rw [be E,ee hqj] at ba;cases ba
    by_cases hu:n=(k-1).toNat
    · rw [ee hu] at bp;cases bp;exact le_of_lt bq
    · rw [be hu,be E] at bp
      exact c n (k-1).toNat aG F ad E E E bp az
  · rw [be E,be hqj] at ba
    by_cases hu:n=(k-1).toNat
    · rw [ee hu] at bp;cases bp
      exact c k.toNat A e m E E a6 E Q ba
    · rw [be hu] at bp
      by_cases oF:n=k.toNat
      · rw [ee oF] at bp;cases bp
        exact c (k-1).toNat A F m E E a6 E az ba
      · rw [be oF] at bp
        exact c n A aG m ad AE a6 E bp ba
def uU.first{b k:Int}(c:uU f l b k)(ag:k≤l):gL f l (b+1):=fun n A e F G J aA=>c n A e F G J E E
def uU.done{b k:Int}{e F:T}(c:uU f l b k)(V:0≤l)(ag:l < k)(Q:f[k.toNat]?=some e)(az:f[(k-1).toNat]?=some F)(bq:¬ja e F < 0):gL f l (b+1):=fun n A aG m G J aA bp ba=>by
  by_cases a6:(A:Int)=k
  · rw [show A=k.toNat from by omega,Q] at ba;cases ba
    by_cases ad:n=(k-1).toNat
    · rw [ad,az] at bp;cases bp;exact bq
    · exact le_trans (c n (k-1).toNat aG F G E E E bp az) bq
  · exact c n A aG m G J E a6 bp ba
def xb(l A p d:Nat):Nat:=if l≤d∧d < l+(p-A) then d+(A-l) else if l+(p-A)≤d∧d < p then d-(p-A) else d
def lL(f t:List T)(l A p:Int):Prop:=∀ d:Nat,t[d]?=f[xb l.toNat A.toNat p.toNat d]?
def lL.none(c:l=i∨i=p)(G:0≤l)(J:l≤i)(aA:i≤p):lL f f l i p:=fun d=>by unfold xb;congr 1;split<;>(try split)<;>omega
def Bg(l p s d:Nat):Nat:=if l≤d∧d < l+s then d-l+p else if p≤d∧d < p+s then d-p+l else d
def uZ(f t:List T)(l p s:Int):Prop:=∀ d:Nat,t[d]?=f[Bg l.toNat p.toNat s.toNat d]?
def uZ.zero:uZ f f l p 0:=fun d=>by unfold Bg;congr 1;split<;>(try split)<;>omega
def uZ.step{b:Int}{e F:T}(c:uZ f t l p b)(bB:0≤b)(V:0≤l)(lw:l+b < p)(Q:t[(l+b).toNat]?=some e)(az:t[(p+b).toNat]?=some F):uZ f ((t.set (l+b).toNat F).set (p+b).toNat e) l p (b+1):=fun d=>by
  rw [r_ (dD.1 Q).1 (dD.1 az).1]
  rw [c] at Q az
  split
  · rename_i R
    rw [←Q];congr 1;unfold Bg;(repeat' split)<;>omega
  · split
    · rw [←az];congr 1;unfold Bg;(repeat' split)<;>omega
    · rw [c];congr 1;unfold Bg;(repeat' split)<;>omega
def lL.one{b k A:Int}(c:uZ f t (A-b) A k)(gH:lL t Z (A-(b-k)) A (A+k))(bB:0≤A-b)(ag:1≤k)(mi:k < b):lL f Z (A-b) A (A+k):=fun d=>by
  exact acO
def lL.awt{b k A:Int}(c:uZ f t (A-b) (A+k-b) b)(gH:lL t Z (A-b) A (A+(k-b)))(bB:0≤A-b)(ac:1≤b)(mi:b < k):lL f Z (A-b) A (A+k):=fun d=>by
  exact acO
def lL.FI{b A:Int}(c:uZ f t (A-b) A b)(bB:0≤A-b)(ac:1≤b):lL f t (A-b) A (A+b):=fun d=>by
  rw [c];congr 1;unfold Bg xb;(repeat' split)<;>omega
def lL.Mz(c:lL f t l i p)(ad:t.Perm f)(bB:0≤l)(G:l≤i)(J:i≤p):jB f t l p:=⟨ad,fun b ac=>by
  rw [c];congr 1;unfold xb;(repeat' split)<;>omega⟩
end
end Go.LK.g
namespace Go.LK.g
open Go Go.LK
def Hh(z:T→T→Prop)(f:List T)(i y:Int):Prop:=∀ aG m,f[i.toNat]?=some aG→f[y.toNat]?=some m→z aG m
abbrev BK:=Hh fun aG m=>ja aG m < 0
abbrev BQ:=Hh fun aG m=>¬ja aG m < 0
def Hh.eo{z:T→T→Prop}{f:List T}{i y:Int}{aG m:T}(bp:f[i.toNat]?=some aG)(ba:f[y.toNat]?=some m)(c:z aG m):Hh z f i y:=fun _ _ G J=>by
  rw [bp] at G;rw [ba] at J;cases G;cases J;exact c
structure fB (o cz:Int→Prop) (gw ac e F:Int):Prop where
  f:gw≤e
  t:e≤F
  c:F≤ac
  n:gw < e→o (e-1)
  A:F < ac→cz F
section
variable {o cz:Int→Prop} {gw ac e F i:Int}
def fB.zero(c:gw≤ac):fB o cz gw ac gw ac:=⟨by omega,c,by omega,fun c=>by omega,fun c=>by omega⟩
def fB.right(c:fB o cz gw ac e F)(aS:e≤i)(Ai:i < F)(ad:o i):fB o cz gw ac (i+1) F:=⟨by have:=c.f;omega,by omega,c.c,fun _=>by rwa [show i+1-1=i from by omega],c.A⟩
def fB.left(c:fB o cz gw ac e F)(aS:e≤i)(Ai:i < F)(a6:cz i):fB o cz gw ac e i:=⟨c.f,aS,by have:=c.c;omega,c.n,fun _=>a6⟩
end
section
variable {f t Z:List T} {l p i A aI:Int}
structure zG (f t:List T) (l aI:Int):Prop where
  n:t.Perm f
  e:t[aI.toNat]?=f[l.toNat]?
  b:∀ d:Nat,l≤d→(d:Int) < aI→t[d]?=f[d+1]?
  v:∀ d:Nat,(d:Int) < l∨aI < d→t[d]?=f[d]?
def zG.zero:zG f f l l:=⟨.refl _,rfl,fun d G J=>by omega,fun _ _=>rfl⟩
def zG.step{aG m:T}(c:zG f t l aI)(V:0≤l)(ake:l≤aI)(bp:t[aI.toNat]?=some aG)(ba:t[(aI+1).toNat]?=some m):zG f ((t.set aI.toNat m).set (aI+1).toNat aG) l (aI+1):=by
  have G:=(dD.1 bp).1
  have J:=(dD.1 ba).1
  refine ⟨(y3 bp ba).trans c.n,?_,fun d aA aZ=>?_,fun d aA=>?_⟩
  · rw [r_ G J,ee rfl,←bp,c.e]
  · rw [r_ G J,be E]
    split
    · rename_i r;rw [←ba,c.v _ E];congr 1;omega
    · exact c.b d aA E
  · rw [r_ G J,be E,be E];exact c.v d E
structure zw (f t:List T) (l aI:Int):Prop where
  n:t.Perm f
  e:t[aI.toNat]?=f[l.toNat]?
  b:∀ d:Nat,aI < d→(d:Int)≤l→t[d]?=f[d-1]?
  v:∀ d:Nat,l < d∨(d:Int) < aI→t[d]?=f[d]?
def zw.zero:zw f f l l:=⟨.refl _,rfl,fun d G J=>by omega,fun _ _=>rfl⟩
def zw.step{aG m:T}(c:zw f t l aI)(ce:0 < aI)(ake:aI≤l)(bp:t[aI.toNat]?=some aG)(ba:t[(aI-1).toNat]?=some m):zw f ((t.set aI.toNat m).set (aI-1).toNat aG) l (aI-1):=by
  have G:=(dD.1 bp).1
  have J:=(dD.1 ba).1
  refine ⟨(y3 bp ba).trans c.n,?_,fun d aA aZ=>?_,fun d aA=>?_⟩
  · rw [r_ G J,ee rfl,←bp,c.e]
  · rw [r_ G J,be E]
    split
    · rename_i r;rw [←ba,c.v _ E];congr 1;omega
    · exact c.b d E aZ
  · rw [r_ G J,be E,be E];exact c.v d E
def nt(c:gL f l p){b k:Nat}{e F:T}(G:l≤b)(J:b≤k)(aA:(k:Int) < p)(Q:f[b]?=some e)(az:f[k]?=some F):le e F:=by
  rcases Nat.lt_or_eq_of_le J with aZ|aZ
  · exact c b k e F G aZ aA Q az
  · subst aZ;rw [Q] at az;cases az;exact le_refl e
def Po{F:Int}(W:gL f A p)(av:fB (fun c=>BK f c l) (fun c=>BQ f c l) A p i F)(IL:¬i < F)(c:zG f Z l aI)(ce:¬aI < i-1)(ang:aI≤i-1)(V:0≤l)(a6:A-l=1)(E8:p≤f.length):gL Z l p∧jB f Z l p:=by
  have G:=av.f;have J:=av.c;have aA:=av.t
  obtain rfl:i=F:=by omega
  obtain rfl:A=l+1:=by omega
  obtain rfl:aI=i-1:=by omega
  refine ⟨fun b k e F ac mi ag Q az=>?_,c.n,fun b ac=>c.v b E⟩
  have O3:∀ (d:Nat) (aG m:T),l+1≤d→(d:Int) < i→f[d]?=some aG→f[l.toNat]?=some m→le aG m:=fun d aG m R kE bp ba=>by
    obtain ⟨j,bU⟩:∃ j,f[(i-1).toNat]?=some j:=⟨_,et E⟩
    exact le_trans (nt W R (E:d≤(i-1).toNat) E bp bU) (le_of_lt (av.n E j m bU ba))
  have O4:∀ (d:Nat) (aG m:T),i≤d→(d:Int) < p→f[d]?=some aG→f[l.toNat]?=some m→le m aG:=fun d aG m R kE bp ba=>by
    obtain ⟨j,bU⟩:∃ j,f[i.toNat]?=some j:=⟨_,et E⟩
    exact le_trans (av.A E j m bU ba) (nt W E (E:i.toNat≤d) kE bU bp)
  rcases QP b (i-1) with aA|aA|aA
  · rw [c.b b ac aA] at Q
    rcases QP k (i-1) with aZ|aZ|aZ
    · rw [c.b k E aZ] at az;exact nt W E E E Q az
    · rw [show k=(i-1).toNat from by omega,c.e] at az;exact O3 _ _ _ E E Q az
    · rw [c.v k E] at az;exact nt W E E E Q az
  · rw [show b=(i-1).toNat from by omega,c.e] at Q
    rw [c.v k E] at az;exact O4 _ _ _ E E az Q
  · rw [c.v b E] at Q;rw [c.v k E] at az;exact nt W E E E Q az
def Pp{F:Int}(W:gL f l A)(av:fB (fun c=>BQ f A c) (fun c=>BK f A c) l A i F)(IL:¬i < F)(c:zw f Z A aI)(ce:¬i < aI)(ang:i≤aI)(V:0≤l)(a6:p-A=1)(E8:p≤f.length):gL Z l p∧jB f Z l p:=by
  have G:=av.f;have J:=av.c;have aA:=av.t
  obtain rfl:i=F:=by omega
  obtain rfl:p=A+1:=by omega
  obtain rfl:i=aI:=by omega
  refine ⟨fun b k e F ac mi ag Q az=>?_,c.n,fun b ac=>c.v b E⟩
  have O3:∀ (d:Nat) (aG m:T),l≤d→(d:Int) < i→f[d]?=some aG→f[A.toNat]?=some m→le aG m:=fun d aG m R kE bp ba=>by
    obtain ⟨j,bU⟩:∃ j,f[(i-1).toNat]?=some j:=⟨_,et E⟩
    exact le_trans (nt W R (E:d≤(i-1).toNat) E bp bU) (av.n E m j ba bU)
  have O4:∀ (d:Nat) (aG m:T),i≤d→(d:Int) < A→f[d]?=some aG→f[A.toNat]?=some m→le m aG:=fun d aG m R kE bp ba=>by
    obtain ⟨j,bU⟩:∃ j,f[i.toNat]?=some j:=⟨_,et E⟩
    exact le_trans (le_of_lt (av.A E m j ba bU)) (nt W E (E:i.toNat≤d) kE bU bp)
  rcases QP k i with aA|aA|aA
  · rw [c.v b E] at Q;rw [c.v k E] at az;exact nt W ac E E Q az
  · rw [c.v b E] at Q;rw [show k=i.toNat from by omega,c.e] at az;exact O3 _ _ _ ac E Q az
  · rw [c.b k E E] at az
    rcases QP b i with aZ|aZ|aZ
    · rw [c.v b E] at Q;exact nt W ac E E Q az
    · rw [show b=i.toNat from by omega,c.e] at Q;exact O4 _ _ _ E E az Q
    · rw [c.b b E E] at Q;exact nt W E E E Q az
def ro(f:List T)(l y p:Int):Prop:=∀ (b k:Nat) (e F:T),l≤b→(b:Int) < y→y≤k→(k:Int) < p→f[b]?=some e→f[k]?=some F→le e F
def apH{s r y gw ac:Int}(G:gL f l A)(J:gL f A p){F:Int}(av:fB (fun c=>BQ f (s-1-c) c) (fun c=>BK f (s-1-c) c) gw ac i F)(IL:¬i < F)(V:0≤l)(E8:p≤f.length)(NY:l < A)(OE:A < p)
    (ao:y=(l+p) / 2) (aw:s=y+A) (CK:(y < A∧gw=s-p∧ac=y)∨(A≤y∧gw=l∧ac=A)) (aC:r=s-i) (cs:lL f Z i A r) :
    (l≤i∧i≤A∧A≤r∧r≤p∧i≤y∧y≤r)∧gL Z l i∧gL Z i y∧gL Z y r∧gL Z r p∧ro Z l y p:=by
  have is:=av.f;have j4:=av.c;have u7:=av.t
  obtain rfl:i=F:=by omega
  have dP:l≤i∧i≤A∧A≤r∧r≤p∧i≤y∧y≤r:=by omega
  obtain ⟨c0,Cc,MI,MJ,TO,TP⟩:=dP
  have l2:∀ d:Nat,(d:Int) < i→Z[d]?=f[d]?:=fun d R=>by rw [cs];congr 1;unfold xb;(repeat' split)<;>omega
  have r9:∀ d:Nat,i≤d→(d:Int) < y→Z[d]?=f[d+(A-i).toNat]?:=fun d R kE=>by rw [cs];congr 1;unfold xb;(repeat' split)<;>omega
  have pn:∀ d:Nat,y≤d→(d:Int) < r→Z[d]?=f[d-(r-A).toNat]?:=fun d R kE=>by rw [cs];congr 1;unfold xb;(repeat' split)<;>omega
  have uA:∀ d:Nat,r≤d→Z[d]?=f[d]?:=fun d R=>by rw [cs];congr 1;unfold xb;(repeat' split)<;>omega
  refine ⟨⟨c0,Cc,MI,MJ,TO,TP⟩,?_,?_,?_,?_,?_⟩
  · intro b k e F ac mi ag Q az;rw [l2 b E] at Q;rw [l2 k E] at az;exact nt G ac E E Q az
  · intro b k e F ac mi ag Q az;rw [r9 b ac E] at Q;rw [r9 k E ag] at az;exact nt J E E E Q az
  · intro b k e F ac mi ag Q az;rw [pn b ac E] at Q;rw [pn k E ag] at az;exact nt G E E E Q az
  · intro b k e F ac mi ag Q az;rw [uA b ac] at Q;rw [uA k E] at az;exact nt J E E E Q az
  · intro b k e F aA aZ bT c7 Q az
    by_cases hic:(b:Int) < i
    · rw [l2 b hic] at Q
      by_cases Fk:(k:Int) < r
      · rw [pn k bT Fk] at az;exact nt G aA E E Q az
      · rw [uA k E] at az
        obtain ⟨aG,bp⟩:∃ aG,f[(i-1).toNat]?=some aG:=⟨_,et E⟩
        obtain ⟨m,ba⟩:∃ m,f[r.toNat]?=some m:=⟨_,et E⟩
        refine le_trans (nt G aA (E:b≤(i-1).toNat) E Q bp) (le_trans (p:=m) ?_ (nt J E (E:r.toNat≤k) c7 ba az))
        exact av.n E m aG (by rw [show s-1-(i-1)=r from by omega];exact ba) bp
    · rw [r9 b E aZ] at Q
      by_cases Fk:(k:Int) < r
      · rw [pn k bT Fk] at az
        obtain ⟨aG,bp⟩:∃ aG,f[(r-1).toNat]?=some aG:=⟨_,et E⟩
        obtain ⟨m,ba⟩:∃ m,f[i.toNat]?=some m:=⟨_,et E⟩
        refine le_trans (nt J E (E:b+(A-i).toNat≤(r-1).toNat) E Q bp) (le_trans (p:=m) ?_ (nt G E (E:i.toNat≤k-(r-A).toNat) E ba az))
        exact le_of_lt (av.A E aG m (by rw [show s-1-i=r-1 from by omega];exact bp) ba)
      · rw [uA k E] at az;exact nt J E E E Q az
def ro.Mz{y:Int}(c:ro f l y p)(G:jB f t l y)(V:0≤l)(II:l≤y)(N8:y≤p)(av:p≤f.length):ro t l y p:=fun b k e F aA aZ bT c7 Q az=>by
  obtain ⟨d,bJ,bR,b4⟩:=G.mem V II E aA aZ Q
  rw [G.v k E] at az
  exact c d k e F bJ bR bT c7 b4 az
def ro.agy{y:Int}(c:ro f l y p)(G:jB f t y p)(V:0≤l)(II:l≤y)(N8:y≤p)(av:p≤f.length):ro t l y p:=fun b k e F aA aZ bT c7 Q az=>by
  obtain ⟨d,bJ,bR,b4⟩:=G.mem E N8 av bT c7 az
  rw [G.v b E] at Q
  exact c b d e F aA aZ bJ bR Q b4
def ro.eL{y:Int}(c:ro f l y p)(G:gL f l y)(J:gL f y p):gL f l p:=fun b k e F aA aZ bT Q az=>by
  by_cases ag:(k:Int) < y
  · exact G b k e F aA aZ ag Q az
  · by_cases ac:(b:Int) < y
    · exact c b k e F aA ac E bT Q az
    · exact J b k e F E aZ bT Q az
def ox(H i:Int):Prop:=∃ u:Nat,i=u*H
def ox.zero{H:Int}:ox H 0:=⟨0,by simp⟩
def ox.next{H:Int}(c:ox H i):ox H (i+H):=by
  obtain ⟨u,rfl⟩:=c
  exact ⟨u+1,by rw [Int.natCast_add,Int.add_mul];simp⟩
def ox.yk{H:Int}(c:ox (2*H) i):ox H i:=by
  obtain ⟨u,rfl⟩:=c
  exact ⟨u*2,by rw [Int.natCast_mul,Int.mul_assoc];rfl⟩
def ox.Nr{H:Int}(c:ox H i)(gH:ox H l)(W:0 < H)(ca:i < l):i+H≤l:=by
  obtain ⟨u,rfl⟩:=c
  obtain ⟨aG,rfl⟩:=gH
  have G:(u:Int) < aG:=Int.lt_of_mul_lt_mul_right ca E
  have J:((u:Int)+1)*H≤aG*H:=KT E E
  rw [Int.add_mul] at J;omega
def lo(t:List T)(H e r s:Int):Prop:=∀ i y,ox H i→e≤i→i < r→y≤i+H→y≤s→gL t i y
section
variable {H s r:Int}
def lo.zero:lo t H 0 0 s:=fun i y _ G J=>by omega
def gL.AW(c:gL t l p)(J:i≤p):gL t l i:=fun b k e F aA aZ bT=>c b k e F aA aZ E
def lo.one(c:lo t H 0 l s)(bh:ox H l)(W:0 < H)(V:jB t Z l p)(cs:gL Z l p)(G:p≤l+H)(J:p=l+H∨p=s):lo Z H 0 p s:=fun i y aA aZ bT c7 gi=>by
  by_cases aS:i < l
  · have:=aA.Nr bh W aS
    exact (c i y aA aZ aS c7 gi).cc V E
  · by_cases Ai:l < i
    · have:=bh.Nr aA W Ai;omega
    · obtain rfl:i=l:=by omega
      exact cs.AW E
def lo.tail(c:lo t H l s s)(V:jB t Z l p)(lw:l≤p):lo Z H p s s:=fun i y aA aZ bT c7 gi=>(c i y aA E bT c7 gi).cc V E
def lo.fst(c:lo t H l s s)(bh:ox (2*H) l)(G:l+H≤s)(W:0 < H):gL t l (l+H):=c l (l+H) bh.yk E E E G
def lo.snd(c:lo t H l s s)(bh:ox (2*H) l)(G:l+H < s)(W:0 < H)(J:p≤l+2*H)(aA:p≤s):gL t (l+H) p:=c (l+H) p bh.yk.next E G E aA
def lo.bv(c:lo t (2*H) 0 l s)(gH:lo t H l s s)(bh:ox (2*H) l)(W:0 < H)(G:s≤l+H):lo t (2*H) 0 s s:=fun i y aA aZ bT c7 gi=>by
  by_cases aS:i < l
  · exact c i y aA aZ aS c7 gi
  · by_cases Ai:l < i
    · have:=bh.Nr aA E Ai;omega
    · obtain rfl:i=l:=by omega
      exact gH i y aA.yk E bT E gi
def lo.all(c:lo t H 0 s s)(G:s≤H):gL t 0 s:=by
  by_cases aw:0 < s
  · exact c 0 s .zero E aw E E
  · exact .one E
def lo.comm(c:lo t (2*H) 0 s s):lo t (H*2) 0 s s:=by rw [Int.mul_comm];exact c
end
end
end Go.LK.g
