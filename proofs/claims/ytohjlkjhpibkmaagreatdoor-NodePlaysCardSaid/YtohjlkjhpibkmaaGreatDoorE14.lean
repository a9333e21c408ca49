/-
  Rules and plain laws that the walks use.
-/
import Derived.Test.YtohjlkjhpibkmaaGreatDoorE13
import Derived.Test.YtohjlkjhpibkmaaGreatDoorE05
import Derived.Test.YtohjlkjhpibkmaaGreatDoorE06
import Derived.Test.YtohjlkjhpibkmaaGreatDoorE12
set_option linter.all false
namespace Go.LK.g
open Go Go.LK
def D8(u:List T)(z:Nat→Prop):Prop:=∀ (b:Nat) (e F:T),0 < b→z b→u[b]?=some e→u[(b-1) / 2]?=some F→le F e
abbrev ov(u:List T):Prop:=D8 u fun _=>True
def Hr(u:List T)(d:Nat):Prop:=∀ (i:Nat) (e F:T),0 < d→0 < i→(i-1) / 2=d→u[i]?=some e→u[(d-1) / 2]?=some F→le F e
def D9(u:List T)(d:Nat):Prop:=D8 u (fun b=>b≠d∧(b-1) / 2≠d)∧Hr u d
def Mg(u:List T)(d:Nat):Prop:=D8 u (fun b=>b≠d)∧Hr u d
def rq(u:List T)(d:Nat):Prop:=D8 u (fun b=>(b-1) / 2≠d)∧Hr u d
def uT(u:List T)(d k:Int):Prop:=(k=d∧D9 u d.toNat)∨Mg u k.toNat
section
variable {u:List T} {d k:Int} {e F:T}
def ov.down(c:ov u)(s:Nat):rq u s:=⟨fun b e F G _ aA aZ=>c b e F G trivial aA aZ,fun i e F G J aA aZ bT=>by
  have aS:=(dD.1 aZ).1
  obtain ⟨aG,bp⟩:∃ aG,u[s]?=some aG:=⟨_,et E⟩
  exact le_trans (c s aG F G trivial bp bT) (c i e aG J trivial aZ (by rw [aA];exact bp))⟩
def uT.start(c:D9 u d.toNat):uT u d d:=.inl ⟨rfl,c⟩
def uT.step(c:uT u d k)(ag:0 < k)(Q:u[k.toNat]?=some e)(az:u[((k-1) / 2).toNat]?=some F)(bq:ja e F < 0):uT ((u.set k.toNat F).set ((k-1) / 2).toNat e) d ((k-1) / 2):=by
  have S:=le_of_lt bq
  have G:=(dD.1 Q).1
  have J:=(dD.1 az).1
  have ad:((k-1) / 2).toNat=(k.toNat-1) / 2:=by omega
  rw [ad] at az J ⊢
  refine .inr ?_
  rw [ad]
  have Ct:Hr u k.toNat:=by rcases c with ⟨rfl,c⟩|c;exact c.2;exact c.2
  have dP:D8 u (fun b=>b≠k.toNat∧(b-1) / 2≠k.toNat):=by rcases c with ⟨rfl,c⟩|c;exact c.1;exact fun b aG m l p i y=>c.1 b aG m l p.1 i y
  have lV:0 < k.toNat:=by omega
  clear c ad
  generalize k.toNat=s at *
  have fL:∀ (i:Nat) (aG:T),(i-1) / 2=s→0 < i→u[i]?=some aG→le F aG:=fun i aG aA aZ bT=>Ct i aG F lV aZ aA bT az
  refine ⟨fun b aG m aA aZ bp ba=>?_,fun i aG m aA aZ bT bp ba=>?_⟩
  · rw [r_ G J] at bp ba
    rw [be aZ] at bp
    by_cases ac:b=s
    · subst ac;rw [ee rfl] at bp;rw [ee rfl] at ba;cases bp;cases ba;exact S
    · rw [be ac] at bp
      by_cases a6:(b-1) / 2=(s-1) / 2
      · rw [ee a6] at ba;cases ba
        exact le_trans S (dP b aG F aA ⟨ac,by omega⟩ bp (by rw [a6];exact az))
      · rw [be a6] at ba
        by_cases vn:(b-1) / 2=s
        · rw [ee vn] at ba;cases ba;exact fL b aG vn aA bp
        · rw [be vn] at ba;exact dP b aG m aA ⟨ac,vn⟩ bp ba
  · rw [r_ G J] at bp ba
    rw [be E,be E] at ba
    have Wr:=dP ((s-1) / 2) F m aA ⟨by omega,by omega⟩ az ba
    rw [be E] at bp
    by_cases aS:i=s
    · rw [ee aS] at bp;cases bp;exact Wr
    · rw [be aS] at bp
      exact le_trans Wr (dP i aG F aZ ⟨aS,by omega⟩ bp (by rw [bT];exact az))
def Mg.Qs(c:Mg u 0):ov u:=fun b e F G _ aA aZ=>c.1 b e F G E aA aZ
def uT.Qs(c:uT u d k)(bB:0≤k)(ag:¬0 < k):rq u d.toNat:=by
  obtain rfl:k=0:=by omega
  rcases c with ⟨rfl,c⟩|c
  · exact ⟨fun b e F G J=>c.1 b e F G ⟨by simp only [Int.toNat_zero];omega,J⟩,c.2⟩
  · exact c.Qs.down _
def uT.done(c:uT u d k)(ag:0 < k)(Q:u[k.toNat]?=some e)(az:u[((k-1) / 2).toNat]?=some F)(bq:¬ja e F < 0):rq u d.toNat:=by
  rw [show ((k-1) / 2).toNat=(k.toNat-1) / 2 from by omega] at az
  rcases c with ⟨rfl,c⟩|c
  · refine ⟨fun b aG m G J bp ba=>?_,c.2⟩
    by_cases ac:b=k.toNat
    · rw [ac] at bp ba;rw [Q] at bp;rw [az] at ba;cases bp;cases ba;exact bq
    · exact c.1 b aG m G ⟨ac,J⟩ bp ba
  · refine ov.down (fun b aG m G _ bp ba=>?_) _
    by_cases ac:b=k.toNat
    · rw [ac] at bp ba;rw [Q] at bp;rw [az] at ba;cases bp;cases ba;exact bq
    · exact c.1 b aG m G ac bp ba
structure tz (u:List T) (k hK ic:Int):Prop where
  l:hK=k∨(2*k+1≤hK∧hK < ic)
  p:∀ (b:Nat) (e F:T),((b:Int)=k∨(2*k+1≤b∧(b:Int) < ic))→u[b]?=some e→u[hK.toNat]?=some F→le F e
section
variable {hK ic:Int}
def tz.zero(c:0≤k):tz u k k (2*k+1):=⟨.inl rfl,fun b e F G Q az=>by
  rw [show b=k.toNat from by omega,az] at Q;cases Q;exact le_refl _⟩
def tz.take(c:tz u k hK ic)(ag:0≤k)(av:2*k+1≤ic)(Q:u[ic.toNat]?=some e)(az:u[hK.toNat]?=some F)(bq:ja e F < 0):tz u k ic (ic+1):=⟨.inr ⟨av,by omega⟩,fun b aG m G bp ba=>by
  rw [Q] at ba;cases ba
  by_cases ac:(b:Int)=ic
  · rw [show b=ic.toNat from by omega,Q] at bp;cases bp;exact le_refl _
  · exact le_trans (le_of_lt bq) (c.p b aG F E bp az)⟩
def tz.cc(c:tz u k hK ic)(ag:0≤k)(av:2*k+1≤ic)(Q:u[ic.toNat]?=some e)(az:u[hK.toNat]?=some F)(bq:¬ja e F < 0):tz u k hK (ic+1):=⟨by have:=c.l;omega,fun b aG m G bp ba=>by
  by_cases ac:(b:Int)=ic
  · rw [show b=ic.toNat from by omega,Q] at bp;cases bp;rw [az] at ba;cases ba;exact bq
  · exact c.p b aG m E bp ba⟩
def rq.done(c:rq u k.toNat)(ag:0≤k)(av:tz u k hK ic)(rQ:hK=k)(aC:2*k+2 < ic∨(u.length:Int)≤ic):ov u:=fun b e F G _ Q az=>by
  have:=(dD.1 Q).1
  by_cases ac:(b-1) / 2=k.toNat
  · exact av.p b e F E Q (by rw [rQ,←ac];exact az)
  · exact c.1 b e F G ac Q az
def rq.step(c:rq u k.toNat)(ag:0≤k)(av:tz u k hK ic)(ea:¬hK=k)(aC:2*k+2 < ic∨(u.length:Int)≤ic)(S:ic≤2*k+3)(Q:u[k.toNat]?=some e)(az:u[hK.toNat]?=some F):rq ((u.set k.toNat F).set hK.toNat e) hK.toNat:=by
  have G:=(dD.1 Q).1
  have J:=(dD.1 az).1
  have aA:=av.l
  refine ⟨fun b aG m aZ bT bp ba=>?_,fun i aG m aZ bT c7 bp ba=>?_⟩
  · have rT:b < u.length:=by have:=(dD.1 bp).1;simpa using this
    rw [r_ G J] at bp ba
    rw [be (show ¬(b-1) / 2=hK.toNat from bT)] at ba
    by_cases ac:b=hK.toNat
    · rw [ee ac] at bp;cases bp;rw [ee E] at ba;cases ba
      exact av.p k.toNat _ _ E Q az
    · rw [be ac] at bp
      by_cases sP:b=k.toNat
      · rw [ee sP] at bp;cases bp;rw [be E] at ba
        exact c.2 hK.toNat _ m E E E az (by rw [←sP];exact ba)
      · rw [be sP] at bp
        by_cases a6:(b-1) / 2=k.toNat
        · rw [ee a6] at ba;cases ba
          exact av.p b aG _ E bp az
        · rw [be a6] at ba;exact c.1 b aG m aZ a6 bp ba
  · rw [r_ G J] at bp ba
    rw [be E,ee E] at ba;cases ba
    rw [be E,be E] at bp
    exact c.1 i aG _ bT E bp (by rw [c7];exact az)
end
def avZ{b d:Nat}{l p:T}(V:u[b]?=some l)(av:u[d]?=some p):∀ e F,u[b]?=some e→u[d]?=some F→(u.set b p).set d l=(u.set b F).set d e:=fun e F Q az=>by
  rw [V] at Q;rw [av] at az;cases Q;cases az;rfl
def TF{l p:T}(c:kz l p=true):ja l p < 0:=dp c
def TE{l p:T}(c:kz l p=false):¬ja l p < 0:=fa c
def ov.push(c:ov u){s:Int}(aw:s=((u++[e]).length:Int)-1):D9 ((u++[e]).set s.toNat e) s.toNat:=by
  have pd:s.toNat=u.length:=by rw [aw];simp
  rw [pd,Zi]
  refine ⟨fun b aG m G J bp ba=>?_,fun i aG m G J aA bp ba=>?_⟩
  · have:=(dD.1 bp).1
    rw [eh,GL] at this
    rw [to E] at bp ba
    exact c b aG m G trivial bp ba
  · have:=(dD.1 bp).1
    rw [eh,GL] at this
    omega
def rq.FI(c:rq u d.toNat)(R:(u.length:Int)≤d+1):ov u:=fun b aG m G _ bp ba=>by
  have:=(dD.1 bp).1
  exact c.1 b aG m G E bp ba
def ov.kL(c:ov u){s:Nat}(aw:s+1=u.length)(bB:0≤d)(uf:d < s)(Q:u[d.toNat]?=some e)(az:u[s]?=some F):D9 (((u.set d.toNat F).set s e).take s) d.toNat:=by
  have G:=(dD.1 Q).1
  have J:=(dD.1 az).1
  have ft:∀ b:Nat,b≠d.toNat→b < s→(((u.set d.toNat F).set s e).take s)[b]?=u[b]?:=fun b aA aZ=>by
    rw [k6,ee aZ,r_ G J,be E,be aA]
  have S:∀ {b:Nat} {aG:T},(((u.set d.toNat F).set s e).take s)[b]?=some aG→b < s:=fun {b aG} aA=>by
    rw [k6] at aA;split at aA
    · assumption
    · cases aA
  refine ⟨fun b aG m aA aZ bp ba=>?_,fun i aG m aA aZ bT bp ba=>?_⟩
  · have:=S bp
    rw [ft _ aZ.1 E] at bp;rw [ft _ aZ.2 E] at ba
    exact c b aG m aA trivial bp ba
  · have:=S bp
    rw [ft _ E E] at bp;rw [ft _ E E] at ba
    exact (c.down d.toNat).2 i aG m aA aZ bT bp ba
def ov.arB(c:ov u){s:Nat}(R:d.toNat=s):ov (((u.set d.toNat F).set s e).take s):=fun b aG m G _ bp ba=>by
  have ft:∀ {b:Nat} {aG:T},(((u.set d.toNat F).set s e).take s)[b]?=some aG→u[b]?=some aG:=fun {b aG} aA=>by
    rw [k6] at aA;split at aA
    · rwa [tn E,tn E] at aA
    · cases aA
  exact c b aG m G trivial (ft bp) (ft ba)
def ov.uq(c:ov u)(Q:u[0]?=some e):∀ (b:Nat) (aG:T),u[b]?=some aG→le e aG:=by
  intro b
  induction b using Nat.strongRecOn with
  | _ b b6 =>
    intro aG bp
    by_cases ac:b=0
    · subst ac;rw [Q] at bp;cases bp;exact le_refl _
    · have:=(dD.1 bp).1
      obtain ⟨m,ba⟩:∃ m,u[(b-1) / 2]?=some m:=⟨_,et E⟩
      exact le_trans (b6 _ E m ba) (c b aG m E trivial bp ba)
end
structure hG (u:List T) (t:List (Int×Int)):Prop where
  ok:hr u t
  ad:ov u
section
variable {u:List T} {t:List (Int×Int)} {id:Int} {e F:T}
def hG.nil:hG [] []:=⟨.nil,fun b e F _ _ c=>by simp at c⟩
def hG.EN(c:hG u t)(W:(cx t id).isSome=true):∃ (d:Nat) (e:T),u[d]?=some e∧e.id=id∧(cx t id).getD 0=(d:Int)∧d < u.length:=c.ok.EN W
def hG.yP(c:hG u t):(cx t id).isSome=false↔∀ e∈u,e.id≠id:=c.ok.yP
def hG.KB(c:hG u t)(Q:e∈u)(az:F∈u)(aC:e.id=F.id):e=F:=c.ok.KB Q az aC
def hG.gu(c:hG u t)(Q:e∈u):(cx t e.id).isSome=true:=c.ok.gu Q
def hG.uq(c:hG u t)(Q:u[0]?=some e):∀ F∈u,le e F:=fun F az=>by
  obtain ⟨b,ac⟩:=kw.1 az
  exact c.ad.uq Q b F ac
end
end Go.LK.g
namespace Go.LK.g
open Go Go.LK
def ajG{l p:T}:0 < ja l p↔p.ck < l.ck∨l.ck=p.ck∧(p.seq < l.seq∨l.seq=p.seq∧p.id < l.id):=by
  unfold ja qk
  exact RJ
def KG{l p:T}:iL l p=true↔p.am < l.am∨l.am=p.am∧(p.ck < l.ck∨l.ck=p.ck∧(p.seq < l.seq∨l.seq=p.seq∧p.id < l.id)):=by
  rw [←ajG]
  unfold iL
  rw [decide_eq_true_eq]
  generalize ja l p=L
  unfold qk
  exact RJ
def Dr{l p:T}:iL l p=false↔¬(p.am < l.am∨l.am=p.am∧(p.ck < l.ck∨l.ck=p.ck∧(p.seq < l.seq∨l.seq=p.seq∧p.id < l.id))):=by
  rw [←KG];cases iL l p<;>simp
def pC(f:List T)(b d:Nat):Prop:=∀ (k:Nat) (F e:T),k < b→f[k]?=some F→f[d]?=some e→iL F e=false
section
variable {f v u dR tg:List T} {t:List (Int×Int)} {b d:Nat} {e aI r:T}
def pC.zero:pC f 0 0:=fun k F e c=>by omega
def pC.take(c:pC f b d)(R:f[d]?=some e)(ac:f[b]?=some aI)(bU:iL aI e=true):pC f (b+1) b:=fun k F Bo ag az uk=>by
  rw [ac] at uk;cases uk
  rcases mR k b with G|G
  · have J:=c k F e G az R
    rw [Dr] at J ⊢;rw [KG] at bU;omega
  · have:k=b:=by omega
    subst this;rw [ac] at az;cases az;rw [Dr];omega
def pC.cc(c:pC f b d)(R:f[d]?=some e)(ac:f[b]?=some aI)(bU:iL aI e=false):pC f (b+1) d:=fun k F Bo ag az uk=>by
  rw [R] at uk;cases uk
  rcases mR k b with G|G
  · exact c k F e G az R
  · have:k=b:=by omega
    subst this;rw [ac] at az;cases az;exact bU
def pC.all(c:pC f f.length d)(R:f[d]?=some e):∀ aI∈f,iL aI e=false:=fun aI ce=>by
  obtain ⟨k,ag⟩:=p9 ce
  exact c k aI e (dD.1 ag).1 ag R
def Dp(bh:hG u t)(bw:v.Perm u)(aC:(v++[e])[d]?=some r)(R:d < v.length)(ce:aI.id=r.id)(G:u.Perm (aI :: dR))(J:tg.Perm (e :: dR))(bA:pC (v++[e]) (v++[e]).length d) :
    (r :: tg).Perm (e :: u)∧∀ F∈e :: u,iL F r=false:=by
  have CD:r∈v:=by
    rw [to R] at aC
    exact eF aC
  have anh:aI=r:=bh.KB (G.mem_iff.2 oU) (bw.mem_iff.1 CD) ce
  subst anh
  refine ⟨(J.cons aI).trans ((List.Perm.swap e aI dR).trans (G.symm.cons e)),fun F az=>bA.all aC F ?_⟩
  exact acz
def awH(bw:v.Perm u)(aC:(v++[e])[d]?=some r)(R:d=v.length)(bA:pC (v++[e]) (v++[e]).length d):∀ F∈e :: u,iL F e=false:=by
  subst R
  have:e=r:=by simpa using aC
  subst this
  intro F az
  refine bA.all aC F ?_
  exact acz
def Pt{aI:T}{dG:List (Int×Int)}(bh:hG u t)(sR:hG dR dG)(aw:(cx t e.id).isSome=false)(G:u.Perm (aI :: dR)):(cx dG e.id).isSome=false:=apZ bh.ok sR.ok aw G
end
end Go.LK.g
namespace Go.LK.g
open Go Go.LK
def it(S:List Int)(u:Nat):Int:=(S.take u).foldl fv 0
def Mx(l p:Int):0≤fv l p∧fv l p≤2147483647:=ab.gP _ bd
def UI:∀ {f:List Int} {l:Int},0≤l→l≤2147483647→0≤f.foldl fv l∧f.foldl fv l≤2147483647
  | [],_,bB,G=>⟨bB,G⟩
  | p :: f,l,_,_=>UI (f:=f) (Mx l p).1 (Mx l p).2
section
variable {S:List Int} {u:Nat} {ap e s:Int}
def TG:0≤it S u∧it S u≤2147483647:=UI bd bd
def TH{s:Int}(c:S[u]?=some s):it S (u+1)=fv (it S u) s:=by
  unfold it;rw [hx,c,p6];rfl
def TI{t:Nat}:it (S.take t) u=it S (min u t):=by unfold it;rw [GK]
def yI(ap:Int)(S:List Int)(e:Int):Int:=if nd ap e=true then S.getD e.toNat 0 else 0
def sv(ap:Int)(S:List Int)(e s:Int):List Int:=if nd ap e=true then S.set e.toNat (fv (S.getD e.toNat 0) s) else S
def Xf{r:Int}(c:nd ap e=true)(aC:S[e.toNat]?=some r):yI ap S e=r:=by unfold yI;rw [ee c,ps,aC];rfl
def aps(c:nd ap e=false):yI ap S e=0:=by unfold yI;rw [c];rfl
def agf{r:Int}(c:nd ap e=true)(aC:S[e.toNat]?=some r):sv ap S e s=S.set e.toNat (fv r s):=by unfold sv;rw [ee c,ps,aC];rfl
def age(c:nd ap e=false):sv ap S e s=S:=by unfold sv;rw [c];rfl
def agd:(sv ap S e s).length=S.length:=by unfold sv;split<;>simp
def iu(ap:Int)(S:List Int)(e:Int):Int:=if e < 0 then 0 else it S (min e.toNat ap.toNat)
def wD:0≤iu ap S e∧iu ap S e≤2147483647:=by
  unfold iu;split
  · decide
  · exact TG
def w2(S:List Int)(d:Nat):Int:=if d=0 then 0 else it S (d-1)
def ao1{d:Nat}(c:e < (d:Int))(J:(d:Int)≤e+1∨d=0)(R:(d:Int)≤ap+1):w2 S d=iu ap S e:=by
  unfold w2 iu
  by_cases bB:d=0
  · rw [ee bB]
    by_cases Q:e < 0
    · rw [ee Q]
    · omega
  · rw [be bB,be E];congr 1;omega
def ao0{d:Nat}(c:ap < (d:Int))(J:(d:Int)≤e+1∨d=0)(R:(d:Int)≤ap+1)(bB:0≤ap):w2 S d=iu ap S e:=by
  unfold w2 iu
  rw [be E,be E];congr 1;omega
def qW(n:Int→Bool)(z u v:Int):Int:=match (List.range (u-z+1).toNat).find? (fun (k:Nat)=>n (z+(k:Int))) with
  | some k=>z+(k:Int)
  | none=>v
def nx(n:Int→Bool)(z u v:Int):Int:=match (List.range (z-u+1).toNat).find? (fun (k:Nat)=>n (z-(k:Int))) with
  | some k=>z-(k:Int)
  | none=>v
def UB{n:Nat→Bool}{s d:Nat}(c:∀ k,k < d→¬n k=true)(R:d < s)(ad:n d=true):(List.range s).find? n=some d:=by
  rw [QL]
  refine ⟨ad,d,by simpa using R,by simp,fun k ag=>?_⟩
  have:=c k ag
  simpa using this
def Nj{n:Nat→Bool}{s:Nat}(c:∀ k,k < s→¬n k=true):(List.range s).find? n=none:=by
  rw [DF]
  exact fun k ag=>c k (kd.1 ag)
def Tr{n:Nat→Prop}{d:Nat}(c:∀ k,k < d→¬n k)(R:¬n d):∀ k,k < d+1→¬n k:=fun k ag=>by
  rcases mR k d with G|G
  · exact c k G
  · obtain rfl:k=d:=by omega
    exact R
section
variable {n:Int→Bool} {z u v:Int} {d:Nat}
def UN(c:∀ k:Nat,k < d→¬n (z+(k:Int))=true)(ad:n (z+(d:Int))=true)(R:z+(d:Int)≤u):z+(d:Int)=qW n z u v:=by
  unfold qW;rw [UB c E ad]
def ajh(c:∀ k:Nat,k < d→¬n (z+(k:Int))=true)(R:u < z+(d:Int)):v=qW n z u v:=by
  unfold qW;rw [Nj fun k ag=>c k E]
def UM(c:∀ k:Nat,k < d→¬n (z-(k:Int))=true)(ad:n (z-(d:Int))=true)(R:u≤z-(d:Int)):z-(d:Int)=nx n z u v:=by
  unfold nx;rw [UB c E ad]
def ajc(c:∀ k:Nat,k < d→¬n (z-(k:Int))=true)(R:z-(d:Int) < u):v=nx n z u v:=by
  unfold nx;rw [Nj fun k ag=>c k E]
def Ni{n:Nat→Bool}{s d:Nat}(c:(List.range s).find? n=some d):d < s:=kd.1 (KZ c)
def ajf:qW n z u v=v∨(z≤qW n z u v∧qW n z u v≤u):=by
  unfold qW;split
  · rename_i c;have:=Ni c;right;omega
  · left;rfl
def ajb:nx n z u v=v∨(u≤nx n z u v∧nx n z u v≤z):=by
  unfold nx;split
  · rename_i c;have:=Ni c;right;omega
  · left;rfl
end
abbrev vM(ap:Int)(S:List Int)(kq e:Int):Bool:=decide (kq≤iu ap S e)
abbrev tW(ap:Int)(S:List Int)(kq e:Int):Bool:=decide (iu ap S e≤kq)
def oi(ap:Int)(S:List Int)(aa mM:Int):Int:=qW (vM ap S (fv (iu ap S (ab.cc aa ap)) (pX (iu ap S 128) (ab.cc mM 100)))) (ab.cc aa ap+1) ap ap
def ma(ap:Int)(S:List Int)(aa mf cut:Int):Int :=
  if ab.cc aa ap≤ab.cc mf ap then ab.cc aa ap
  else nx (tW ap S (iu ap S (ab.cc aa ap)-pX (iu ap S (ab.cc aa ap)) (ab.cc cut 100))) (ab.cc aa ap-1) (ab.cc mf ap) (ab.cc mf ap)
def ZI{aa mM:Int}(c:0≤ap):0≤oi ap S aa mM∧oi ap S aa mM≤ap:=by
  have G:=ab.gP aa c
  unfold oi
  rcases ajf (n:=vM ap S (fv (iu ap S (ab.cc aa ap)) (pX (iu ap S 128) (ab.cc mM 100)))) (z:=ab.cc aa ap+1) (u:=ap) (v:=ap) with J|J<;>omega
def Ug{aa mf cut:Int}(c:0≤ap):0≤ma ap S aa mf cut∧ma ap S aa mf cut≤ap:=by
  have G:=ab.gP aa c
  have J:=ab.gP mf c
  unfold ma
  split
  · omega
  · rcases ajb (n:=tW ap S (iu ap S (ab.cc aa ap)-pX (iu ap S (ab.cc aa ap)) (ab.cc cut 100))) (z:=ab.cc aa ap-1) (u:=ab.cc mf ap) (v:=ab.cc mf ap) with aA|aA<;>omega
def Uf{aa mf cut:Int}(c:ab.cc aa ap≤ab.cc mf ap):ma ap S aa mf cut=ab.cc aa ap:=by unfold ma;rw [ee c]
def Uh{aa mf cut:Int}(c:¬ab.cc aa ap≤ab.cc mf ap):ma ap S aa mf cut=nx (tW ap S (iu ap S (ab.cc aa ap)-pX (iu ap S (ab.cc aa ap)) (ab.cc cut 100))) (ab.cc aa ap-1) (ab.cc mf ap) (ab.cc mf ap):=by unfold ma;rw [be c]
def hQ(ap:Int)(S:List Int)(aa mM mf cut cA:Int):Int:=if 0 < cA then oi ap S aa mM else if cA < 0 then ma ap S aa mf cut else aa
def lB(aa awh aP:Int):Int:=if awh=aa then aP else ab.cc (aP+1) 4294967295
def Xp{aa mM mf cut cA:Int}(c:0≤ap)(bB:0≤aa)(G:aa≤ap):0≤hQ ap S aa mM mf cut cA∧hQ ap S aa mM mf cut cA≤ap:=by
  unfold hQ;split
  · exact ZI c
  · split
    · exact Ug c
    · exact ⟨bB,G⟩
end
def iY(b7:List Int)(z s:Int):List Int:=(List.range s.toNat).map fun (b:Nat)=>b7.getD ((z+(b:Int))%(b7.length:Int)).toNat 0
section
variable {b7:List Int} {z s:Int}
def Kp(c:0≤s):((iY b7 z s).length:Int)=s:=by unfold iY;simp;omega
def Gp:iY b7 z 0=[]:=rfl
def avy{d:Nat}{r:Int}(aC:b7[((z+d)%(b7.length:Int)).toNat]?=some r):iY b7 z ((d:Int)+1)=iY b7 z d++[r]:=by
  unfold iY
  rw [show ((d:Int)+1).toNat=d+1 from by omega,show ((d:Nat):Int).toNat=d from by omega,rm,gR]
  simp [ps,aC]
def zX{l:Int}(c:0 < b7.length):0≤l%(b7.length:Int)∧l%(b7.length:Int) < b7.length:=⟨Int.emod_nonneg _ E,Int.emod_lt_of_pos _ E⟩
def avz{id:Int}(bB:0≤z)(bc:z < b7.length)(lV:0≤s)(aw:s < b7.length):iY (b7.set ((z+s)%(b7.length:Int)).toNat id) z (s+1)=iY b7 z s++[id]:=by
  unfold iY
  rw [show (s+1).toNat=s.toNat+1 from by omega,rm,gR,ol]
  have R:=zX (b7:=b7) (l:=z+s) E
  congr 1
  · refine GW fun b ac=>?_
    have sP:=kd.1 ac
    have ag:=zX (b7:=b7) (l:=z+b) E
    rw [ps,ps,tn]
    intro r
    have bP:(z+s)%(b7.length:Int)=(z+b)%(b7.length:Int):=by omega
    have wA:(z+s)%(b7.length:Int)=z+s∨(z+s)%(b7.length:Int)=z+s-b7.length:=by
      rcases (show z+s < (b7.length:Int)∨(b7.length:Int)≤z+s from by omega) with c|c
      · exact .inl (aBE E c)
      · exact .inr Rr
    have tP:(z+b)%(b7.length:Int)=z+b∨(z+b)%(b7.length:Int)=z+b-b7.length:=by
      rcases (show z+(b:Int) < (b7.length:Int)∨(b7.length:Int)≤z+(b:Int) from by omega) with c|c
      · exact .inl (aBE E c)
      · exact .inr Rr
    omega
  · simp only [kO,Lb]
    rw [show (z+(s.toNat:Int))=z+s from by omega,ps,xy E];rfl
def avA(bB:0≤z)(bc:z < b7.length)(lV:0 < s):iY b7 z s=b7.getD z.toNat 0 :: iY b7 ((z+1)%(b7.length:Int)) (s-1):=by
  unfold iY
  rw [show s.toNat=(s-1).toNat+1 from by omega,GO,kO,rl]
  congr 1
  · rw [show z+((0:Nat):Int)=z from by omega,aBE bB bc]
  · refine GW fun b _=>?_
    simp only [Function.comp]
    rw [show z+((b+1:Nat):Int)=z+1+b from by omega,←Int.emod_add_emod]
def gJ(f:List Int)(dr:Nat)(id:Int):List Int:=if id∈f then f else (f++[id]).drop (f.length+1-dr)
structure nq (b7:List Int) (z s:Int) (t:List (Int×Int)):Prop where
  gX:(iY b7 z s).Nodup
  mem:∀ d,(cx t d).isSome=true↔d∈iY b7 z s
section
variable {t:List (Int×Int)} {id m:Int}
def nq.new:nq b7 z 0 []:=⟨by rw [Gp];exact .nil,fun d=>by rw [Gp];simp [cx]⟩
def nq.gu(c:nq b7 z s t)(W:(cx t id).isSome=true):gJ (iY b7 z s) b7.length id=iY b7 z s:=by unfold gJ;rw [ee ((c.mem id).1 W)]
def nq.r5(c:nq b7 z s t)(W:(cx t id).isSome=false):id∉iY b7 z s:=fun bh=>by rw [(c.mem id).2 bh] at W;cases W
def nq.none(c:nq b7 z s t)(W:(cx t id).isSome=false)(bB:b7.length=0)(lV:0≤s)(aw:s≤b7.length):gJ (iY b7 z s) b7.length id=iY b7 z s:=by
  unfold gJ;rw [be (c.r5 W)]
  obtain rfl:s=0:=by omega
  rw [Gp,bB];rfl
def nq.room(c:nq b7 z s t)(W:(cx t id).isSome=false)(bB:0≤z)(bc:z < b7.length)(lV:0≤s)(aw:s < b7.length) :
    nq (b7.set ((z+s)%(b7.length:Int)).toNat id) z (s+1) (e' t id m)∧iY (b7.set ((z+s)%(b7.length:Int)).toNat id) z (s+1)=gJ (iY b7 z s) b7.length id:=by
  have ad:=avz (id:=id) bB bc lV aw
  have S:=Kp (b7:=b7) (z:=z) lV
  refine ⟨⟨?_,fun d=>?_⟩,?_⟩
  · rw [ad,lm];exact ⟨c.gX,by simp,fun l V p av=>by simp at av;subst av;exact fun r=>c.r5 W (r ▸ V)⟩
  · rw [ad,lQ,iE,nm]
    by_cases R:id=d
    · rw [ee R];simp [R]
    · rw [be R,c.mem];simp;exact fun r=>absurd r.symm R
  · rw [ad];unfold gJ;rw [be (c.r5 W),show (iY b7 z s).length+1-b7.length=0 from by omega];rfl
def nq.pM{r:Int}(c:nq b7 z s t)(W:(cx t id).isSome=false)(bB:0≤z)(bc:z < b7.length)(aw:s=b7.length)(aC:b7[z.toNat]?=some r) :
    nq (b7.set (((z+1)%(b7.length:Int)+(s-1))%(b7.length:Int)).toNat id) ((z+1)%(b7.length:Int)) (s-1+1) (e' (e3 t r) id m)∧iY (b7.set (((z+1)%(b7.length:Int)+(s-1))%(b7.length:Int)).toNat id) ((z+1)%(b7.length:Int)) (s-1+1)=gJ (iY b7 z s) b7.length id:=by
  have bA:=avA (b7:=b7) bB bc (E:0 < s)
  rw [show b7.getD z.toNat 0=r from by rw [ps,aC];rfl] at bA
  have av:=zX (b7:=b7) (l:=z+1) E
  have dy:=c.r5 W
  have S:=Kp (b7:=b7) (z:=z) (show 0≤s by omega)
  have gv:=c.gX
  rw [bA,kP] at gv
  have G:nq b7 ((z+1)%(b7.length:Int)) (s-1) (e3 t r):=⟨gv.2,fun d=>by
    rw [sG]
    by_cases R:r=d
    · rw [ee R];subst R;simp [gv.1]
    · rw [be R,c.mem,bA];simp;exact fun bP=>absurd bP.symm R⟩
  have J:(cx (e3 t r) id).isSome=false:=by
    rw [sG];split
    · rfl
    · exact W
  obtain ⟨aA,aZ⟩:=G.room (m:=m) J av.1 av.2 E E
  refine ⟨aA,aZ.trans ?_⟩
  have V_:=Kp (b7:=b7) (z:=(z+1)%(b7.length:Int)) (show 0≤s-1 by omega)
  have Oy:id∉iY b7 ((z+1)%(b7.length:Int)) (s-1):=fun bh=>dy (by rw [bA];exact gS _ bh)
  unfold gJ
  rw [be Oy,be dy,show (iY b7 ((z+1)%(b7.length:Int)) (s-1)).length+1-b7.length=0 from by omega,show (iY b7 z s).length+1-b7.length=1 from by omega,bA];rfl
end
end
def Pg(l p:Int):Int:=if p > l then p else l
def Hv(s:Nat)(af c':fh)(e:T):Prop:=∃ d L,d < s∧af[d]?=some none∧(∀ k:Nat,k < d→af[k]?≠some none)∧c'=af.set d (some (L,e))
def xP(s:Nat)(af c':fh)(e:T):Prop:=∃ d L,d < s∧af[d]?=some (some (L,e))∧c'=af.set d none
def ahb{S:List Int}{ap:Int}{d:Nat}(aw:S.length=128)(ba:ap≤128)(c:(d:Int)+1≤ap):fv (it S d) (yI ap S (d:Int))=it S (d+1):=by
  obtain ⟨r,aC⟩:∃ r,S[d]?=some r:=⟨_,et E⟩
  rw [Xf (VD.2 ⟨by omega,by omega⟩) (r:=r) (by rw [show (d:Int).toNat=d from by omega];exact aC),←TH aC]
end Go.LK.g
namespace Go.LK
open Go
structure bk where
  iz:Int
  s_:Int
  s9:Int
  dg:Int
  s':Int
  s8:Int
  mx:Int
  td:Int
  tb:Int
  uD:Int
  og:Int
  tc:Int
  hv:Int
  uB:Int
  qA:Int
  uw:Int
  rb:Int
  eC:Int
  fp:Int
  e_:Int
  jP:Int
  iV:Int
  iW:Int
def bk.cells(z:bk):List Value:=[z.iz,z.s_,z.s9,z.dg,z.s',z.s8,z.mx,z.td,z.tb,z.uD,z.og,z.tc,z.hv,z.uB,z.qA,z.uw,z.rb,z.eC,z.fp,z.e_,z.jP,z.iV,z.iW]
def bk.one{f:List bk}:∀ l∈f,(bk.cells l).all Value.oneCell'=true:=fun _ _=>rfl
def M.frame{o:Program}{z:FuncId}{args:Array Value}{dO C ah:List aB}{post:Value→List aB→Prop}(c:M o z args dO C post):M o z args dO (C++ah) (fun m B=>∃ h8,B=h8++ah∧post m h8):=fun j fM ci=>by
  refine (c j (fun ar bI=>⟨(fM ar bI).1,fun d R hB=>(fM ar bI).2 d R (by rw [Nh];exact oS _ hB)⟩) ci.fy).mono ?_
  rintro r bQ ⟨m,h8,rfl,ad,W⟩
  exact ⟨m,h8++ah,rfl,⟨h8,rfl,ad⟩,ci.o3 W⟩
def wi(eu wl:List aB):Prop:=∀ pv∈wl,∃ ar∈eu,∀ j,ar.holds j→pv.holds j∧∀ d∈pv.dT,d∈ar.dT
def wi.nil{eu:List aB}:wi eu []:=fun _ c=>by cases c
def wi.eo{eu ah:List aB}{ar b2:aB}(b:Nat)(c:eu[b]?=some ar)(aS:∀ j,ar.holds j→b2.holds j∧∀ d∈b2.dT,d∈ar.dT)(Z:wi eu ah):wi eu (b2 :: ah):=fun pv G=>by
  rcases fb.1 G with rfl|G
  · exact ⟨ar,eF c,aS⟩
  · exact Z pv G
def wi.at{eu ah:List aB}{ar:aB}(b:Nat)(c:eu[b]?=some ar)(Z:wi eu ah):wi eu (ar :: ah):=Z.eo b c fun _ c=>⟨c,fun _ R=>R⟩
def M.vF{o:Program}{z:FuncId}{args:Array Value}{eu wl C:List aB}{post:Value→List aB→Prop}(c:M o z args wl C post)(Z:wi eu wl):M o z args [c1 eu] C post:=c.PZ fun pv z8=>by
  obtain ⟨ar,bI,aS⟩:=Z pv z8
  refine ⟨c1 eu,by simp,fun j bU=>?_⟩
  obtain ⟨G,J⟩:=Ca bI j bU
  obtain ⟨aA,aZ⟩:=aS j G
  exact LS
def a'.x1{eu fB ah:List aB}(c:a' eu fB):a' (eu++ah) (fB++ah):=fun _ _ _ W=>W.o3 (c _ _ _ W.fy)
def a'.wQ{ar b2:aB}{ah:List aB}(c:a' [ar] [b2]):a' (ar :: ah) (b2 :: ah):=a'.x1 c
def a'.lx{ar So b2:aB}{ah:List aB}(c:a' [ar,So] [b2]):a' (ar :: So :: ah) (b2 :: ah):=a'.x1 c
def a'.none{C:List aB}:a' C [c1 []]:=a'.trans (a'.bz [] rfl) a'.new
namespace g
structure dM where
  cb:Int
  bJ:Int
  bR:Int
  b4:Int
  bY:Int
  b_:Int
  cy:Int
  aa:Int
  aP:Int
  cA:Int
  held:Int
  aR:Int
  gh:Int
  ez:Int
  eA:Int
  gb:Int
  S:List Int
structure b3 where
  s:Nat
  i:Nat
  aG:Nat
  y:Nat
  c:Nat
  f:Nat
  bz:Nat
  xd:Nat
  A:Nat
  n:Nat
  mx:Nat
  H:Nat
  hC:Nat
  j:Nat
  k2:Nat
  bM:Int
  cW:Int
  b0:Int
  key:Nat
  ej:Value
  k1:List cj
  al:Int
  b1:Int
  hD:Int
  qD:Int
  bm:Int
  fW:Int
  bD:Int
  sE:Int
  me:Int
  f2:Int
  f3:Int
  f4:Int
  f5:Int
  f6:Int
  dA:Value
  bb:List cG
  ap:Int
def io(h:b3)(x bS aY bb:Int):List Value:=[h.i,h.bM,h.cW,h.b0,.int .u64 (Nat.cast h.key:Int),h.ej,h.al,h.b1,h.hD,h.qD,h.bm,h.fW,h.bD,h.sE,h.me,h.f2,h.f3,h.f4,h.f5,h.f6,h.dA,x,bS,aY,bb,h.bz,h.A,h.H,.map (some h.hC),h.j,h.k2]
structure b3.bC (h:b3):Prop where
  gB:1≤h.ap
  hm:h.ap≤128
  jl:0≤h.bm
  lh:h.bm≤7
  kY:1≤h.b1
  gk:h.b1≤16
  Fw:1≤h.hD
  mm:h.hD≤64
  Au:1≤h.qD
  CF:h.qD≤64
  nh:0≤h.fW
  jw:h.fW≤256
  pR:0≤h.al
  VV:h.al < (h.k1.length:Int)
  IN:h.k1.length≤8
  aS:h.bb.length≤6
  sU:h.ej.oneCell'=true
  Aj:h.dA.oneCell'=true
  alv:h.ap=dd.jc h.bM h.cW
structure dM.bC (h:b3) (d:dM):Prop where
  aw:d.S.length=128
  sT:0≤d.aa
  hu:d.aa≤h.ap
  ne:0≤d.aP
  nz:d.aP≤4294967295
  kY:-1≤d.cA
  gk:d.cA≤1
  jl:0≤d.aR
  lg:d.aR≤h.bm
  KF:d.cA=0→d.held=0
  h_:h7.e7 [d.cb,d.bJ,d.bR,d.b4,d.bY,d.b_,d.cy] h.ap=0
structure sq where
  ah:Value
  z:Int
  s:Int
  b7:List Int
  t:List (Int×Int)
structure sq.bC (H:sq):Prop where
  dI:H.b7.length≤256
  pR:0≤H.z
  mh:H.z < H.b7.length∨H.b7.length=0∧H.z=0
  lV:0≤H.s
  q5:H.s≤H.b7.length
  hf:nq H.b7 H.z H.s H.t
structure o0 where
  X:Value
  u:List T
  t:List (Int×Int)
structure o0.bC (h:b3) (A:o0):Prop where
  R:hG A.u A.t
  S:(A.u.length:Int)≤h.hD
structure bn where
  e:T
  bg:Int
  m:Value
  cr:List Int
structure bn.SD (k:bn):Prop where
  bg:k.bg=1∨k.bg=2
  c2:k.cr.length≤100
  one:k.m.oneCell'=true
  up:Go.LK.bn.jD k.cr
def li(k:bn):Value:=.agg #[k.e.id,k.e.am,k.e.cg,k.e.ck,k.e.eN,k.e.dm,k.e.seq,k.bg,k.m]
instance:Coe bn Go.Value:=⟨fun e=>.agg #[e.e.id,e.e.am,e.e.cg,e.e.ck,e.e.eN,e.e.dm,e.e.seq,e.bg,e.m]⟩
instance:Coe bn (List Go.Value):=⟨fun e=>[e.e.id,e.e.am,e.e.cg,e.e.ck,e.e.eN,e.e.dm,e.e.seq,e.bg,e.m]⟩
def C7(Y:Nat)(n:Int×bn):aB:=row n.2.m Y 1 (n.2.cr.map bH)
def h4(Y:Nat)(t:List (Int×bn)):List aB:=t.map (C7 Y)
def vr(e:T):bn:=⟨e,1,.slice none 0 0,[]⟩
structure nY (t:List (Int×bn)) (ec:List T):Prop where
  gX:(ec.map T.id).Nodup
  fE:(ex t).Nodup
  ff:∀ id k,cx t id=some k→k.e∈ec∧k.e.id=id∧k.SD
  gu:∀ e∈ec,∃ k,cx t e.id=some k∧k.e=e
structure gp (h:b3) (af:fh) (t:List (Int×bn)) (cd:List cI) (dc:hA):Prop where
  S:af.length=16
  av:nV af h.b1.toNat
  k:nY t (c5 af)
  Z:bj.hI cd dc
  j:∀ n∈cd,(cx t n.ff).isSome=true
  vP:cd.length≤100000
def ek(x al:Int)(n:T×Int):aK:=⟨4,x,al,n.1.id,n.2,n.1.am,0⟩
def eB(al:Int)(d:dM)(n:T×Int):bk:=⟨2,0,0,0,0,0,0,n.1.id,al,n.1.cg,n.2,d.aa,d.aP,d.aR,0,0,0,0,0,0,0,0,0⟩
def Bf(x al:Int)(e:T):aK:=⟨3,x,al,e.id,0,ab.left x e.dm,e.ck⟩
section
variable {t:List (Int×bn)} {ec FG:List T} {e F:T} {id:Int} {k eM:bn}
def X_{bi:Type}{t:List (Int×bi)}{d:Int}{m:bi}(c:(ex t).Nodup):(ex (e' t d m)).Nodup:=by
  cases bq:cx t d with
  | none =>
    rw [F_ bq]
    have aw:=ajD.1 bq
    unfold ex at aw c ⊢
    rw [gR,lm]
    refine ⟨c,by simp,fun l V p av=>?_⟩
    simp at av;subst av
    exact fun r=>aw (r ▸ V)
  | some vN =>
    obtain ⟨ar,b2,G,J,_⟩:=Is (aG:=m) bq c
    rw [J];rw [G] at c
    unfold ex at c ⊢
    simpa using c
def aij{bi:Type}{t:List (Int×bi)}{d:Int}(c:(ex t).Nodup):(ex (e3 t d)).Nodup:=by
  unfold ex e3 at *
  exact c.sublist (zd.map _)
def nY.pk(c:nY t ec)(ad:ec.Perm FG):nY t FG :=
  ⟨(ad.map _).nodup_iff.1 c.gX,c.fE,fun id k bq=>by obtain ⟨G,J⟩:=c.ff id k bq;exact ⟨ad.mem_iff.1 G,J⟩,fun e Q=>c.gu e (ad.mem_iff.2 Q)⟩
def nY.e8(c:nY t ec)(Q:e∈ec)(az:F∈ec)(aC:e.id=F.id):e=F:=by
  obtain ⟨k,G,J⟩:=c.gu e Q
  obtain ⟨b,aA,aZ⟩:=c.gu F az
  rw [aC,aA] at G;cases G
  exact J.symm.trans aZ
def nY.r5(c:nY t ec):cx t id=none↔∀ F∈ec,F.id≠id:=by
  constructor
  · intro bq F az aC
    obtain ⟨k,G,_⟩:=c.gu F az
    rw [aC,bq] at G;cases G
  · intro aw
    cases bq:cx t id with
    | none=>rfl
    | some k=>obtain ⟨G,J,_⟩:=c.ff id k bq;exact absurd J (aw _ G)
def nY.put(c:nY t ec)(aw:∀ F∈ec,F.id≠e.id):nY (e' t e.id (vr e)) (e :: ec):=by
  refine ⟨?_,X_ c.fE,fun id k bq=>?_,fun F az=>?_⟩
  · rw [kO,kP]
    refine ⟨fun bh=>?_,c.gX⟩
    obtain ⟨F,az,aC⟩:=bx.1 bh
    exact aw F az aC
  · rw [lQ] at bq
    split at bq
    · cases bq;exact ⟨p5,by assumption,.inl rfl,by simp [vr],rfl,by simp [vr,Go.LK.bn.jD]⟩
    · obtain ⟨G,J⟩:=c.ff id k bq
      exact ⟨gS _ G,J⟩
  · rw [lQ]
    rcases fb.1 az with rfl|az
    · exact ⟨vr F,by rw [ee rfl],rfl⟩
    · rw [be fun r=>aw F az r.symm];exact c.gu F az
def nY.h5(c:nY t ec)(bq:cx t id=some k)(Q:eM.e=k.e)(ad:eM.SD):nY (e' t id eM) ec:=by
  obtain ⟨G,J,_⟩:=c.ff id k bq
  refine ⟨c.gX,X_ c.fE,fun b A a6=>?_,fun F az=>?_⟩
  · rw [lQ] at a6
    split at a6
    · cases a6;subst id;exact ⟨Q ▸ G,Q ▸ by assumption,ad⟩
    · exact c.ff b A a6
  · rw [lQ]
    split
    · refine ⟨eM,rfl,Q.trans (c.e8 G az (by rw [J];assumption))⟩
    · exact c.gu F az
def nY.one(c:nY t ec)(bq:cx t id=some k):k.m.oneCell'=true:=(c.ff id k bq).2.2.one
def nY.M5(c:nY t ec)(ad:ec.Perm (F :: FG)):nY (e3 t F.id) FG:=by
  have gH:=c.pk ad
  have aw:=kP.1 (kO .. ▸ gH.gX:(F.id :: FG.map T.id).Nodup)
  refine ⟨aw.2,aij c.fE,fun id k bq=>?_,fun e Q=>?_⟩
  · rw [sG] at bq
    split at bq
    · cases bq
    · obtain ⟨G,J,aA⟩:=gH.ff id k bq
      rcases fb.1 G with aZ|aZ
      · rw [aZ] at J;exact absurd J bO
      · exact ⟨aZ,J,aA⟩
  · rw [sG,be fun r=>aw.1 (bx.2 ⟨e,Q,r.symm⟩)]
    exact gH.gu e (gS _ Q)
def apO{Y:Nat}:a' [c1 (h4 Y t)] [c1 (h4 Y (e3 t id))]:=fun an bL j W=>by
  have G:=cl.oA.1 W
  have J:∀ f:List (Int×bn),∃ bt:List Nat,bt.Nodup∧(∀ b∈bt,b < f.length)∧LK.dB (h4 Y f) bt=h4 Y (e3 f id):=by
    intro f
    induction f with
    | nil=>exact ⟨[],by simp,by simp,rfl⟩
    | cons n f b6 =>
      obtain ⟨bt,aA,aZ,bT⟩:=b6
      have c7:LK.dB (C7 Y n :: h4 Y f) (bt.map (·+1))=LK.dB (h4 Y f) bt:=by
        clear aA bT
        induction bt with
        | nil=>rfl
        | cons b bt b6=>simp only [kO,LK.dB,uL,Dy] at b6 ⊢;rw [b6 fun k ag=>aZ k (gS _ ag)]
      have ao:e3 (n :: f) id=if n.1=id then e3 f id else n :: e3 f id:=by
        unfold e3;rw [nR];by_cases c:n.1=id<;>simp [c]
      by_cases ad:n.1=id
      · refine ⟨bt.map (·+1),?_,by simpa using aZ,?_⟩
        · exact List.pairwise_map.2 (aA.imp fun c r=>c (by simpa using r))
        · rw [ao,ee ad];exact c7.trans bT
      · refine ⟨0 :: bt.map (·+1),?_,?_,?_⟩
        · refine kP.2 ⟨by simp,List.pairwise_map.2 (aA.imp fun c r=>c (by simpa using r))⟩
        · intro b ac
          rcases fb.1 ac with rfl|ac
          · simp
          · obtain ⟨A,a6,rfl⟩:=bx.1 ac
            have:=aZ A a6;simp;omega
        · rw [ao,be ad]
          show C7 Y n :: LK.dB (C7 Y n :: h4 Y f) (bt.map (·+1))=C7 Y n :: h4 Y (e3 f id)
          rw [c7,bT]
  obtain ⟨bt,aA,_,bT⟩:=J t
  rw [xA] at G
  exact cl.oA.2 (by rw [xA,←bT];exact G.dB aA)
def apP{Y:Nat}(c:cx t id=none)(k:bn):a' [row k.m Y 1 (k.cr.map bH),c1 (h4 Y t)] [c1 (h4 Y (e' t id k))]:=by
  refine Cb ?_
  rw [F_ c]
  unfold h4
  exact acT
def yL{Y:Nat}(R:(ex t).Nodup)(c:cx t id=some k)(eM:bn):a' [row eM.m Y 1 (eM.cr.map bH),c1 (h4 Y t)] [c1 (h4 Y (e' t id eM))]:=by
  obtain ⟨ar,b2,G,J,_⟩:=Is (aG:=eM) c R
  refine a'.trans (a'.cons (MH (ar:=C7 Y (id,k)) (fB:=h4 Y (ar++b2)) ?_)) (Cb ?_)
  · rw [G];unfold h4
    rw [gR,gR,kO];exact tq
  · rw [J];unfold h4
    rw [gR,gR,kO];exact tq
def apN{Y:Nat}(c:cx t id=some k):row k.m Y 1 (k.cr.map bH)∈h4 Y t:=bx.2 ⟨(id,k),UV c,rfl⟩
end
section
variable {h:b3} {af c':fh} {t:List (Int×bn)} {cd:List cI} {dc kb:hA} {e F:T}
def gp.PG(c:gp h af t cd dc)(ad:(c5 af).Perm (F :: c5 c'))(S:c'.length=16)(av:nV c' h.b1.toNat)(cs:bj.hI (bj.drop cd F.id) kb):gp h c' (e3 t F.id) (bj.drop cd F.id) kb:=by
  refine ⟨S,av,c.k.M5 ad,cs,fun n vl=>?_,iZ bj.rF c.vP⟩
  unfold bj.drop at vl
  obtain ⟨G,J⟩:=pt.1 vl
  rw [sG,be (by have:=dp J;exact fun r=>this r.symm)]
  exact c.j n G
def gp.start(c:gp h af t cd dc)(ad:(c5 c').Perm (e :: c5 af))(aw:∀ F∈c5 af,F.id≠e.id)(S:c'.length=16)(av:nV c' h.b1.toNat):gp h c' (e' t e.id (vr e)) cd dc:=by
  refine ⟨S,av,(c.k.put aw).pk ad.symm,c.Z,fun n vl=>?_,c.vP⟩
  rw [lQ]
  split
  · rfl
  · exact c.j n vl
end
end g
end Go.LK
namespace Go.LK.g
open Go Go.LK
section
variable {h:b3} {d cD:dM}
end
end Go.LK.g
namespace Go.LK.g
open Go Go.LK
section
variable {af:fh} {s:Nat} {e:T}
def ai'(S:s≤af.length)(c:(c5 (af.take s)).length < s):∃ d:Nat,d < s∧af[d]?=some none:=by
  induction s with
  | zero=>omega
  | succ s b6 =>
    obtain ⟨v,bw⟩:∃ v,af[s]?=some v:=⟨_,et E⟩
    cases v with
    | none=>exact ⟨s,by omega,bw⟩
    | some A =>
      obtain ⟨L,F⟩:=A
      rw [WI bw,eh] at c
      obtain ⟨d,R,ad⟩:=b6 E G4
      exact ⟨d,by omega,ad⟩
def apY{t:Int}{id:Int}(c:∀ F∈c5 af,F.id≠id):∀ (k L:Nat) (F:T),(k:Int) < t→af[k]?=some (some (L,F))→F.id≠id:=fun _ _ _ _ ad=>c _ (FF ad)
def axl{t:Int}(av:nV af t.toNat)(bB:0≤t)(Q:e∈c5 af):∃ (k L:Nat) (F:T),(k:Int) < t∧af[k]?=some (some (L,F))∧F.id=e.id:=by
  obtain ⟨d,L,R⟩:=WH Q
  refine ⟨d,L,e,?_,R,rfl⟩
  rcases mR d t.toNat with c|c
  · omega
  · exact absurd (av d _ c R) oU
def Ja:c5 (List.replicate 16 none)=[]:=rfl
end
end Go.LK.g
namespace Go.LK.g
open Go Go.LK
def eL(f:List T):List T:=f.mergeSort fun l p=>decide (¬ja p l < 0)
section
variable {f v u cU:List T} {e:T}
def uG:(eL f).Perm f:=Q2 ..
def Kr:(eL f).Pairwise le:=by
  have c:=QS (le:=fun l p=>decide (¬ja p l < 0)) (fun l p i G J=>c9 (show ¬ja i l < 0 from le_trans (dp G:¬ja p l < 0) (dp J:¬ja i p < 0)))
    (fun l p=>by
      by_cases G:le l p
      · rw [c9 (show ¬ja p l < 0 from G)];rfl
      · have J:le p l:=by rw [AV] at G ⊢;omega
        rw [c9 (show ¬ja l p < 0 from J),Bool.or_true]) f
  exact c.imp fun c=>dp c
def Bd(bw:v.Perm u)(W:v.Pairwise le)(aw:(u.map T.id).Nodup):v=eL u:=by
  refine List.Perm.eq_of_pairwise ?_ W Kr (bw.trans uG.symm)
  intro l p V av G J
  have V:=bw.mem_iff.1 V
  have av:=uG.mem_iff.1 av
  have gj:l.id=p.id:=by rw [AV] at G J;omega
  obtain ⟨b,ac⟩:=kw.1 V
  obtain ⟨k,ag⟩:=kw.1 av
  have aA:(u.map T.id)[b]?=some l.id:=by rw [hy,ac];rfl
  have aZ:(u.map T.id)[k]?=some l.id:=by rw [hy,ag,gj];rfl
  obtain ⟨CF,sP⟩:=dD.1 aA
  obtain ⟨ue,Aw⟩:=dD.1 aZ
  have:b=k:=(Lc aw).1 (sP.trans Aw.symm)
  subst this;rw [ac] at ag;cases ag;rfl
def FQ(c:u.Perm cU)(aw:(cU.map T.id).Nodup):(u.map T.id).Nodup:=(c.map T.id).nodup_iff.2 aw
def Kq(c:u.Perm cU)(aw:(cU.map T.id).Nodup):eL u=eL cU:=Bd (uG.trans c) Kr aw
def avK(c:u.Perm (e :: cU))(bh:∀ F∈u,le e F)(aw:(u.map T.id).Nodup):eL u=e :: eL cU:=by
  refine (Bd ?_ ?_ aw).symm
  · exact (uG.cons e).trans c.symm
  · exact l7.2 ⟨fun F az=>bh F (c.mem_iff.2 (gS _ (uG.mem_iff.1 az))),Kr⟩
def Qi:eL []=[]:=by simp [eL]
def Be:(eL u).length=u.length:=uG.length_eq
def avL{n:T→Bool}(aw:(u.map T.id).Nodup)(c:cU.Perm ((eL u).filter n)):eL cU=(eL u).filter n:=by
  have J:((((eL u).filter n)).map T.id).Nodup:=(FQ uG aw).sublist ((zd).map _)
  exact (Bd c.symm (Kr.sublist zd) (FQ c J)).symm
end
structure cp where
  e:T
  bg:Int
  cr:List Int
def cp.zero:cp:=⟨T.zero,0,[]⟩
def q_(t:List (Int×bn)):Option (Nat×T)→cp
  | none=>cp.zero
  | some (_,e)=>match cx t e.id with
    | some k=>⟨e,k.bg,k.cr⟩
    | none=>cp.zero
def fJ(b1:Int)(af:fh)(t:List (Int×bn)):List cp:=(af.take b1.toNat).map (q_ t)
def nw(o:List cp):Option Nat:=o.findIdx? fun Z=>decide (Z.bg=0)
def hd(o:List cp)(id:Int):Option Nat:=o.findIdx? fun Z=>decide (Z.bg≠0)&&decide (Z.e.id=id)
section
variable {h:b3} {af c':fh} {t:List (Int×bn)} {cd:List cI} {dc:hA} {e F:T} {d L:Nat} {k:bn}
def rc:(fJ h.b1 af t)[d]?=if d < h.b1.toNat then (af[d]?).map (q_ t) else none:=by
  unfold fJ;rw [hy,k6];split<;>rfl
def ar1(bf:h.bC)(S:af.length=16):(fJ h.b1 af t).length=h.b1.toNat:=by
  unfold fJ;rw [fc,ib];have:=bf.gk;omega
def un(c:gp h af t cd dc)(ad:af[d]?=some (some (L,e))):∃ k,cx t e.id=some k∧k.e=e∧k.bg≠0∧q_ t (some (L,e))=⟨e,k.bg,k.cr⟩:=by
  obtain ⟨k,G,J⟩:=c.k.gu e (FF ad)
  refine ⟨k,G,J,?_,?_⟩
  · have:=(c.k.ff _ _ G).2.2.bg;omega
  · unfold q_;simp only [G]
def Co{bi:Type}{n:bi→Bool}{f:List bi}{d:Nat}{l:bi}(V:f[d]?=some l)(ad:n l=true)(aw:∀ (b:Nat) (p:bi),b < d→f[b]?=some p→n p=false):f.findIdx? n=some d:=by
  have R:=(dD.1 V).1
  rw [nS]
  refine ⟨R,?_,fun b ac=>?_⟩
  · rw [(dD.1 V).2];exact ad
  · rw [aw b _ ac (et E)];simp
def EK{bi:Type}{n:bi→Bool}{f:List bi}(aw:∀ (b:Nat) (p:bi),f[b]?=some p→n p=false):f.findIdx? n=none:=by
  rw [KL]
  intro l V
  obtain ⟨b,ac⟩:=kw.1 V
  exact aw b l ac
def yT{Z:cp}(c:(fJ h.b1 af t)[d]?=some Z):d < h.b1.toNat∧∃ v,af[d]?=some v∧Z=q_ t v:=by
  rw [rc] at c
  split at c
  · refine ⟨by assumption,?_⟩
    cases bw:af[d]? with
    | none=>rw [bw] at c;cases c
    | some v=>rw [bw] at c;cases c;exact ⟨v,rfl,rfl⟩
  · cases c
def ai9(c:gp h af t cd dc)(ad:Hv h.b1.toNat af c' e):∃ d L,d < h.b1.toNat∧af[d]?=some none∧c'=af.set d (some (L,e))∧nw (fJ h.b1 af t)=some d:=by
  obtain ⟨d,L,G,J,aA,aZ⟩:=ad
  refine ⟨d,L,G,J,aZ,Co (l:=cp.zero) (by rw [rc,ee G,J];rfl) rfl fun b p ac av=>?_⟩
  obtain ⟨_,v,bw,rfl⟩:=yT av
  cases v with
  | none=>exact absurd bw (aA b ac)
  | some A =>
    exact ab7
def ai8(c:gp h af t cd dc)(bf:h.bC)(bc:((c5 af).length:Int)=h.b1):nw (fJ h.b1 af t)=none:=by
  refine EK fun b p av=>?_
  obtain ⟨ac,v,bw,rfl⟩:=yT av
  cases v with
  | none =>
    exfalso
    have G:=CY c.av
    have J:af.take h.b1.toNat=af.take b++none :: (af.take h.b1.toNat).drop (b+1):=by
      have aA:(af.take h.b1.toNat)[b]?=some none:=by rw [k6,ee ac,bw]
      have aZ:=(Km (p:=none) aA).1
      rwa [GK,DI E] at aZ
    rw [J] at G
    have bT:(c5 (af.take b++none :: (af.take h.b1.toNat).drop (b+1))).length≤b+(h.b1.toNat-(b+1)):=by
      unfold c5
      rw [qG,eh]
      have wA:(List.filterMap (fun v:Option (Nat×T)=>v.map (·.2)) (af.take b)).length≤b:=iZ (Ds _ _) vX
      have tP:(List.filterMap (fun v:Option (Nat×T)=>v.map (·.2)) (none :: (af.take h.b1.toNat).drop (b+1))).length≤h.b1.toNat-(b+1):=by
        rw [List.filterMap_cons_none rfl]
        exact iZ (Ds _ _) (by rw [hw,ib];omega)
      omega
    rw [G] at bT;omega
  | some A =>
    exact ab7
def OY{dF:List (Int×bn)}{v:Option (Nat×T)}(c:∀ L F,v=some (L,F)→cx dF F.id=cx t F.id):q_ dF v=q_ t v:=by
  cases v with
  | none=>rfl
  | some A=>unfold q_;simp only [c A.1 A.2 rfl]
def ar2(R:d < h.b1.toNat)(ad:af[d]?=some none)(dy:∀ F∈c5 af,F.id≠e.id):fJ h.b1 (af.set d (some (L,e))) (e' t e.id (vr e))=(fJ h.b1 af t).set d ⟨e,1,[]⟩:=by
  refine xz fun b=>?_
  have wT:=(dD.1 ad).1
  by_cases ac:d=b
  · subst ac
    rw [rc,ee R,xy wT,xy (by unfold fJ;rw [fc,ib];omega)]
    simp only [Bx,q_,lQ,ee];rfl
  · rw [rc,tn ac,tn ac,rc]
    split
    · cases bw:af[b]? with
      | none=>rfl
      | some v =>
        refine dz some (OY fun L F r=>?_)
        subst r;rw [lQ,be (fun r=>dy F (FF bw) r.symm)]
    · rfl
def Zw(c:gp h af t cd dc)(ad:xP h.b1.toNat af c' e):∃ d,hd (fJ h.b1 af t) e.id=some d∧(∃ k,cx t e.id=some k∧(fJ h.b1 af t)[d]?=some ⟨e,k.bg,k.cr⟩)∧fJ h.b1 c' (e3 t e.id)=(fJ h.b1 af t).set d cp.zero:=by
  obtain ⟨d,L,G,J,rfl⟩:=ad
  obtain ⟨k,ag,rU,vg,Fk⟩:=un c J
  have R:(fJ h.b1 af t)[d]?=some ⟨e,k.bg,k.cr⟩:=by rw [rc,ee G,J];exact dz some Fk
  have CR:∀ (b:Nat) (cS:Nat) (F:T),b≠d→af[b]?=some (some (cS,F))→F.id≠e.id:=fun b cS F akR az aC=>by
    have aw:=c.k.gX
    have dQ:=(Km (p:=none) J).1
    have ui:(c5 af).Perm (e :: c5 (af.set d none)):=(Ku (Y:=0) J).1
    have ng:F∈c5 (af.set d none):=by
      refine FF (d:=b) (L:=cS) ?_
      rw [tn (fun r=>akR r.symm)];exact az
    have pd:=(ui.map T.id).nodup_iff.1 aw
    exact acd
  refine ⟨d,Co R (by simp [vg]) fun b p ac av=>?_,⟨k,ag,R⟩,xz fun b=>?_⟩
  · obtain ⟨_,v,bw,rfl⟩:=yT av
    cases v with
    | none=>rfl
    | some A =>
      obtain ⟨cS,aI⟩:=A
      have:=CR b cS aI E bw
      obtain ⟨_,_,_,_,c7⟩:=un c bw
      rw [c7];simp [this]
  · have wT:=(dD.1 J).1
    by_cases ac:d=b
    · subst ac
      rw [rc,ee G,xy wT,xy (by unfold fJ;rw [fc,ib];omega)];rfl
    · rw [rc,tn ac,tn ac,rc]
      split
      · cases bw:af[b]? with
        | none=>rfl
        | some v =>
          refine dz some (OY fun cS F r=>?_)
          subst r;rw [sG,be (fun r=>CR b cS F (fun bP=>ac bP.symm) bw r.symm)]
      · rfl
end
abbrev rg(d:dM)(e:Int):dM:={ d with ez:=fv d.ez 1,eA:=fv d.eA e,gb:=Pg d.gb (ab.cc e 2147483647) }
section
variable {h:b3} {d:dM}
abbrev cY(h:b3)(d:dM)(e:Int):dM:={ d with S:=sv h.ap d.S e 1 }
abbrev yW(d:dM)(fG dG e9 fi im h' hP:Int):dM:={ d with cb:=fG,bJ:=dG,bR:=e9,b4:=fi,bY:=im,b_:=h',cy:=hP }
abbrev iB(h:b3)(d:dM):dM:={ d with aa:=h.ap,aP:=ab.cc (d.aP+1) 4294967295,cA:=0,held:=0,aR:=h.bm,gh:=32,S:=List.replicate 128 0,ez:=0,eA:=0,gb:=0 }
abbrev sx(d:dM):Int:=gn (gd d.eA d.ez) d.cb d.bJ
abbrev MU(d:dM):Int×Int×Int:=gD d.cA d.held (sx d) d.b_
abbrev MT(h:b3)(d:dM):Int:=hQ h.ap d.S d.aa d.b4 d.bY d.bR (MU d).1
abbrev ahP(h:b3)(d:dM):Int:=lB d.aa (MT h d) d.aP
abbrev T1(h:b3)(d:dM):Bool×Int×Int:=iv h.bm d.aR d.gh (sx d) (decide (MT h d=h.ap)) d.cy
abbrev gs(h:b3)(d:dM):dM:={ d with aa:=MT h d,aP:=ahP h d,cA:=(MU d).2.1,held:=(MU d).2.2,aR:=(T1 h d).2.1,gh:=(T1 h d).2.2,S:=List.replicate 128 0,ez:=0,eA:=0,gb:=0 }
def awq{cA held m ev:Int}(c:cA=0→held=0):(gD cA held m ev).2.1=0→(gD cA held m ev).2.2=0:=by
  unfold gD
  split
  · rename_i G;split
    · exact fun _=>G.2
    · rename_i J;exact fun aA=>absurd aA J
  · rename_i G;split
    · rename_i J;intro aA;dsimp only at aA
      have aZ:cA=0:=by omega
      exact absurd ⟨aZ,c aZ⟩ G
    · intro aA;dsimp only at aA;exact absurd ⟨aA,c aA⟩ G
def Xo{aa tg aP:Int}(bB:0≤aP)(G:aP≤4294967295):0≤lB aa tg aP∧lB aa tg aP≤4294967295:=by
  unfold lB;split
  · exact ⟨bB,G⟩
  · exact ab.gP _ bd
def dM.bC.Zc(c:d.bC h)(e:Int):(cY h d e).bC h:={ c with aw:=agd.trans c.aw }
def dM.bC.QA(c:d.bC h)(e:Int):(rg d e).bC h:={ c with }
def dM.bC.push(c:d.bC h){fG dG e9 fi im h' hP:Int}(aS:h7.e7 [fG,dG,e9,fi,im,h',hP] h.ap=0):(yW d fG dG e9 fi im h' hP).bC h:={ c with h_:=aS }
def dM.bC.X8(c:d.bC h){fG dG e9 fi im h' hP:Int}:(if h7.e7 [fG,dG,e9,fi,im,h',hP] h.ap=0 then yW d fG dG e9 fi im h' hP else d).bC h:=by
  split
  · rename_i aS;exact c.push aS
  · exact c
def dM.bC.auj(c:d.bC h)(bf:h.bC):(iB h d).bC h :=
  { c with aw:=Bu,sT:=(by have:=bf.gB;show 0≤h.ap;omega),hu:=sf _,ne:=(ab.gP _ bd).1,nz:=(ab.gP _ bd).2,kY:=(show (-1:Int)≤0 from by decide),gk:=(show (0:Int)≤1 from by decide),jl:=bf.jl,lg:=sf _,KF:=fun _=>rfl }
def dM.bC.close(c:d.bC h)(bf:h.bC):(gs h d).bC h :=
  { c with aw:=Bu,sT:=(Xp Lp c.sT c.hu).1,hu:=(Xp Lp c.sT c.hu).2,ne:=(Xo c.ne c.nz).1,nz:=(Xo c.ne c.nz).2,kY:=(Qu c.kY c.gk).1,gk:=(Qu c.kY c.gk).2,jl:=(M7 c.jl c.lg).1,lg:=(M7 c.jl c.lg).2,KF:=awq c.KF }
end
def lj(x al:Int):List T→List cp→dM→List T×List cp×dM×List aK
  | [],o,d=>([],o,d,[])
  | e :: A,o,d=>match nw o with
    | none=>(e :: A,o,d,[])
    | some b=>((lj x al A (o.set b ⟨e,1,[]⟩) (rg d (ab.left x e.dm))).1,(lj x al A (o.set b ⟨e,1,[]⟩) (rg d (ab.left x e.dm))).2.1,(lj x al A (o.set b ⟨e,1,[]⟩) (rg d (ab.left x e.dm))).2.2.1,Bf x al e :: (lj x al A (o.set b ⟨e,1,[]⟩) (rg d (ab.left x e.dm))).2.2.2)
def qQ(a_:List aK)(Z:List T×List cp×dM×List aK):List T×List cp×dM×List aK:=(Z.1,Z.2.1,Z.2.2.1,a_++Z.2.2.2)
def JG{x al:Int}{e:T}{A:List T}{o:List cp}{d:dM}{b:Nat}(c:nw o=some b):lj x al (e :: A) o d=qQ [Bf x al e] (lj x al A (o.set b ⟨e,1,[]⟩) (rg d (ab.left x e.dm))):=by
  rw [lj];simp only [c];rfl
def JF{x al:Int}{A:List T}{o:List cp}{d:dM}(c:nw o=none):lj x al A o d=(A,o,d,[]):=by
  cases A with
  | nil=>rfl
  | cons e A=>rw [lj];simp only [c]
end Go.LK.g
namespace Go.LK
structure gM where
  O:Int
  code:Int
  a1:Int
  bM:Int
  nK:Bool
def gM.cells(e:gM):List Value:=[e.O,e.code,e.a1,e.bM,.bool e.nK]
def gM.one{f:List gM}:∀ l∈f,(gM.cells l).all Value.oneCell'=true:=fun _ _=>rfl
structure ow where
  code:Int
  z:Value
  ok:z.oneCell'=true
def ow.cells(e:ow):List Value:=[e.code,e.z]
end Go.LK
namespace Go.LK.g
open Go Go.LK
def fI(y:ab.ht)(bD O s x:Int):Bool:=(ab.get y bD O x).2&&!ab.r6 s (ab.get y bD O x).1.aa
def fX(i:cG)(aR dN x a1:Int)(cut:Bool):gM :=
  if (if 0 > aR then 0 else aR) < i.aR then ⟨i.O,11,0,0,decide (i.aR=0)⟩
  else if (oB x a1 i.jr i.dr).2.2=false then ⟨i.O,9,0,0,decide (i.aR=0)⟩
  else if cut=true then ⟨i.O,8,0,0,decide (i.aR=0)⟩
  else ⟨i.O,0,(oB x a1 i.jr i.dr).1,(oB x a1 i.jr i.dr).2.1,decide (i.aR=0)⟩
def mw(z:cG→gM)(f:List cG):Int×List gM:=match f.find? (fun i=>decide ((z i).code≠0)&&(z i).nK) with
  | some i=>((z i).code,[])
  | none=>(0,f.map z)
section
variable {z:cG→gM} {f:List cG} {d:Nat} {i:cG}
def tH(z:cG→gM)(f:List cG)(d:Nat):Prop:=∀ (k:Nat) (e:cG),k < d→f[k]?=some e→(decide ((z e).code≠0)&&(z e).nK)=false
def tH.zero:tH z f 0:=fun k e c=>by omega
def tH.next(c:tH z f d)(aS:f[d]?=some i)(bc:(decide ((z i).code≠0)&&(z i).nK)=false):tH z f (d+1):=fun k e ag Q=>by
  rcases mR k d with G|G
  · exact c k e G Q
  · have:k=d:=by omega
    subst this;rw [aS] at Q;cases Q;exact bc
def PL(c:tH z f d)(aS:f[d]?=some i)(bc:(decide ((z i).code≠0)&&(z i).nK)=true):mw z f=((z i).code,[]):=by
  have G:f.find? (fun i=>decide ((z i).code≠0)&&(z i).nK)=some i:=by
    rw [QL]
    obtain ⟨R,kE⟩:=dD.1 aS
    refine ⟨bc,d,R,kE,fun k ag=>?_⟩
    rw [c k _ ag (et E)];rfl
  unfold mw;rw [G]
def asA(c:tH z f d)(R:¬d < f.length):mw z f=(0,f.map z):=by
  have G:f.find? (fun i=>decide ((z i).code≠0)&&(z i).nK)=none:=by
    rw [DF]
    intro e Q
    obtain ⟨k,ag⟩:=p9 Q
    rw [c k e Lm ag];decide
  unfold mw;rw [G]
def Ql(aS:f[d]?=some i):(f.take (d+1)).map z=(f.take d).map z++[z i]:=by rw [hx,aS];simp
def avM(R:¬d < f.length):(f.take d).map z=f.map z:=by rw [ir E]
end
def zz(h:b3)(x:Int)(d:dM)(e:T)(u cU:List T)(a_ hX:List aK)(aH iw:List bk):Prop :=
  ((u.length:Int) < h.hD∧cU.Perm (e :: u)∧hX=a_∧iw=aH) ∨
  (¬(u.length:Int) < h.hD∧∃ F,(F :: cU).Perm (e :: u)∧(∀ aI∈e :: u,iL aI F=false)∧hX=a_++[ek x h.al (F,5)]∧iw=aH++[eB h.al d (F,5)])
section
variable {h:b3} {x:Int} {d:dM} {e F aI:T} {u cU:List T} {a_ hX:List aK} {aH iw:List bk}
def zz.len(c:zz h x d e u cU a_ hX aH iw):hX.length≤a_.length+1∧iw.length≤aH.length+1:=by
  rcases c with ⟨_,_,rfl,rfl⟩|⟨_,F,_,_,rfl,rfl⟩<;>simp
def zz.e8(c:zz h x d e u cU a_ hX aH iw){ec:List T}(aw:((u++ec).map T.id).Nodup)(Q:∀ F∈u++ec,F.id≠e.id):((cU++ec).map T.id).Nodup:=by
  have G:(((e :: u)++ec).map T.id).Nodup:=by
    rw [oo,kO,kP]
    exact aco
  rcases c with ⟨_,ad,_⟩|⟨_,F,ad,_⟩
  · exact ((ad.append_right ec).map T.id).nodup_iff.2 G
  · have J:=((ad.append_right ec).map T.id).nodup_iff.2 G
    rw [oo,kO,kP] at J
    exact J.2
end
def Tl{l p:List aK}{Z:List T×List cp×dM×List aK}:qQ l (qQ p Z)=qQ (l++p) Z:=by unfold qQ;simp
structure k_ (h:b3) (x:Int) (d cD:dM) (u cU:List T) (af c':fh) (t dF:List (Int×bn)) (a_ hX:List aK) (aj:List T):Prop where
  e:lj x h.al (eL u) (fJ h.b1 af t) d=qQ (aj.map (Bf x h.al)) (lj x h.al (eL cU) (fJ h.b1 c' dF) cD)
  u:u.Perm (aj++cU)
  n:(c5 c').Perm (aj++c5 af)
  r:hX=a_++aj.map (Bf x h.al)
def xK(h:b3)(u ec:List T):Prop:=u=[]∨(ec.length:Int)=h.b1
section
variable {h:b3} {x:Int} {d bJ:dM} {u dR tg aj:List T} {af fK yV:fh} {t dG:List (Int×bn)} {cd:List cI} {dc:hA} {a_ eX:List aK} {e:T}
def k_.zero:k_ h x d d u u af af t t a_ a_ []:=⟨by simp [qQ],.refl _,.refl _,by simp⟩
def k_.all(c:k_ h x d bJ u dR af fK t dG a_ eX aj):(dR++c5 fK).Perm (u++c5 af):=by
  refine (Bt dR c.n).trans ?_
  refine List.Perm.trans ?_ (KS (c5 af) c.u).symm
  rw [←ia]
  exact KS (c5 af) Dv
def k_.e8(c:k_ h x d bJ u dR af fK t dG a_ eX aj)(aw:((u++c5 af).map T.id).Nodup):((dR++c5 fK).map T.id).Nodup:=(c.all.map T.id).nodup_iff.2 aw
def k_.zZ(c:k_ h x d bJ u dR af fK t dG a_ eX aj)(aw:((u++c5 af).map T.id).Nodup)(Q:dR.Perm (e :: tg)):∀ F∈c5 fK,F.id≠e.id:=by
  intro F az aC
  have G:=c.e8 aw
  rw [gR,lm] at G
  exact G.2.2 e.id (bx.2 ⟨e,Q.mem_iff.2 p5,rfl⟩) F.id (bx.2 ⟨F,az,rfl⟩) aC.symm
def k_.next(c:k_ h x d bJ u dR af fK t dG a_ eX aj)(aw:((u++c5 af).map T.id).Nodup)(Q:dR.Perm (e :: tg))(bh:∀ F∈dR,le e F)(ad:(c5 yV).Perm (e :: c5 fK))(ac:gp h fK dG cd dc)(CO:Hv h.b1.toNat fK yV e):k_ h x d (rg bJ (ab.left x e.dm)) u tg af yV t (e' dG e.id (vr e)) a_ (eX++[Bf x h.al e]) (aj++[e]):=by
  refine ⟨?_,?_,?_,?_⟩
  · have G:=c.e8 aw
    rw [gR,lm] at G
    obtain ⟨b,L,J,aA,aZ,bT⟩:=ai9 ac CO
    rw [c.e,avK Q bh G.1,JG bT,Tl,gR,aZ,ar2 J aA (c.zZ aw Q)];rfl
  · exact c.u.trans (by rw [ia];exact Bt aj Q)
  · refine ad.trans ((List.Perm.cons e c.n).trans ?_)
    rw [ia];exact (tq (a:=e) (l₁:=aj) (l₂:=c5 af)).symm
  · rw [c.r,gR,ia];rfl
def k_.len(c:k_ h x d bJ u dR af fK t dG a_ eX aj):eX.length=a_.length+aj.length:=by rw [c.r];simp
def k_.Jz(c:k_ h x d bJ u dR af fK t dG a_ eX aj):aj.length≤(c5 fK).length:=by have:=c.n.length_eq;rw [eh] at this;omega
def k_.done(c:k_ h x d bJ u dR af fK t dG a_ eX aj)(bf:h.bC)(ac:gp h fK dG cd dc)(bc:xK h dR (c5 fK)):lj x h.al (eL u) (fJ h.b1 af t) d=(eL dR,fJ h.b1 fK dG,bJ,aj.map (Bf x h.al)):=by
  rw [c.e]
  rcases bc with rfl|bc
  · rw [Qi];simp [lj,qQ]
  · rw [JF (ai8 ac bf bc)];simp [qQ]
def sY{af:fh}{s:Nat}(av:nV af s):(c5 af).length≤s:=by rw [←CY av];exact OT
end
def awu{h:b3}{af:fh}{t:List (Int×bn)}{cd:List cI}{dc:hA}{b k L cS:Nat}{e F:T}(c:gp h af t cd dc)(G:af[b]?=some (some (L,e)))(J:af[k]?=some (some (cS,F)))(aC:e.id=F.id):b=k:=by
  refine Decidable.byContradiction fun mi=>?_
  have ui:(c5 af).Perm (e :: c5 (af.set b none)):=(Ku (Y:=0) G).1
  have ng:F∈c5 (af.set b none):=by
    refine FF (d:=k) (L:=cS) ?_
    rw [tn mi];exact J
  have pd:=(ui.map T.id).nodup_iff.1 c.k.gX
  exact acd
def JX{h:b3}{af:fh}{t:List (Int×bn)}{cd:List cI}{dc:hA}{b k:Nat}{Z H:cp}(c:gp h af t cd dc)(G:(fJ h.b1 af t)[b]?=some Z)(J:(fJ h.b1 af t)[k]?=some H)(cs:Z.bg≠0)(W:H.bg≠0)(aC:Z.e.id=H.e.id):b=k:=by
  obtain ⟨_,v,bw,rfl⟩:=yT G
  obtain ⟨_,mO,qs,rfl⟩:=yT J
  cases v with
  | none=>exact absurd rfl cs
  | some A =>
    cases mO with
    | none=>exact absurd rfl W
    | some fu =>
      obtain ⟨L,e⟩:=A;obtain ⟨cS,F⟩:=fu
      obtain ⟨_,_,_,_,dQ⟩:=un c bw
      obtain ⟨_,_,_,_,bP⟩:=un c qs
      rw [dQ,bP] at aC
      exact awu c bw qs aC
def sy(b5:List T)(Z:cp):cp:=if Z.bg≠0∧Z.e.id∈b5.map T.id then cp.zero else Z
structure rs (h:b3) (x:Int) (d:dM) (af c':fh) (t dF:List (Int×bn)) (cd hE:List cI) (a_ hX:List aK) (aH iw:List bk) (b5:List T):Prop where
  n:(c5 af).Perm (b5++c5 c')
  y:∀ F∈b5,F.ck≤x
  r:hX=a_++b5.map fun F=>ek x h.al (F,6)
  z:iw=aH++b5.map fun F=>eB h.al d (F,6)
  j:hE=b5.foldl (fun f F=>bj.drop f F.id) cd
  e:fJ h.b1 c' dF=(fJ h.b1 af t).map (sy b5)
section
variable {h:b3} {x:Int} {d:dM} {qv b5:List T} {af fK yV:fh} {t dG:List (Int×bn)} {cd iq:List cI} {l4:hA} {a_ eX:List aK} {aH j6:List bk} {e:T} {b:Nat}
def ahQ{o:List cp}:o.map (sy [])=o:=by
  have:sy []=id:=by funext Z;unfold sy;simp
  rw [this,List.map_id]
def rs.zero:rs h x d af af t t cd cd a_ a_ aH aH []:=⟨.refl _,by simp,by simp,by simp,rfl,ahQ.symm⟩
def rs.next(c:rs h x d af fK t dG cd iq a_ eX aH j6 b5)(ad:(c5 fK).Perm (e :: c5 yV))(ac:gp h fK dG iq l4)(bA:xP h.b1.toNat fK yV e)(ao:e.ck≤x):rs h x d af yV t (e3 dG e.id) cd (bj.drop iq e.id) a_ (eX++[ek x h.al (e,6)]) aH (j6++[eB h.al d (e,6)]) (b5++[e]):=by
  refine ⟨?_,fun F az=>?_,?_,?_,?_,?_⟩
  · exact c.n.trans (by rw [ia];exact Bt b5 ad)
  · rcases iE.1 az with az|az
    · exact c.y F az
    · obtain rfl:=nm.1 az;exact ao
  · rw [c.r,gR,ia];rfl
  · rw [c.z,gR,ia];rfl
  · rw [p6,←c.j];rfl
  · obtain ⟨i,_,⟨k,ag,aS⟩,aC⟩:=Zw ac bA
    have vg:k.bg≠0:=by have:=(ac.k.ff _ _ ag).2.2.bg;omega
    rw [aC]
    refine xz fun b=>?_
    by_cases hci:i=b
    · subst hci
      rw [xy (dD.1 aS).1]
      rw [c.e,hy] at aS
      cases rN:(fJ h.b1 af t)[i]? with
      | none=>rw [rN] at aS;cases aS
      | some Z =>
        rw [rN] at aS
        rw [hy,rN]
        simp only [Bx,Q6] at aS ⊢
        unfold sy at aS ⊢
        split at aS
        · exact absurd (dz cp.bg aS).symm vg
        · rw [ee ⟨by rw [aS];exact vg,by rw [aS];simp⟩]
    · rw [tn hci]
      have aA:=c.e
      rw [aA,hy,hy]
      cases rN:(fJ h.b1 af t)[b]? with
      | none=>rfl
      | some Z =>
        simp only [Bx,Q6]
        unfold sy
        by_cases cs:Z.bg≠0∧Z.e.id∈b5.map T.id
        · rw [ee cs,ee ⟨cs.1,by rw [gR];exact oS _ cs.2⟩]
        · rw [be cs]
          by_cases hr2:Z.bg≠0∧Z.e.id∈(b5++[e]).map T.id
          · exfalso
            have Q:Z.e.id=e.id:=by
              have J:=hr2.2
              rw [gR] at J
              rcases iE.1 J with aZ|aZ
              · exact absurd ⟨hr2.1,aZ⟩ cs
              · simpa using aZ
            have bT:(fJ h.b1 fK dG)[b]?=some Z:=by rw [aA,hy,rN];simp only [Bx,sy,be cs]
            exact hci (JX ac aS bT vg hr2.1 Q.symm)
          · rw [be hr2]
def rs.len(c:rs h x d af fK t dG cd iq a_ eX aH j6 b5):eX.length=a_.length+b5.length∧j6.length=aH.length+b5.length:=by rw [c.r,c.z];simp
def rs.Jz(c:rs h x d af fK t dG cd iq a_ eX aH j6 b5):b5.length≤(c5 af).length:=by have:=c.n.length_eq;rw [eh] at this;omega
def oy(x:Int)(v b5:List T)(b:Nat):Prop:=b5=(v.take b).filter fun F=>decide (F.ck≤x)
def oy.zero{v:List T}:oy x v [] 0:=by simp [oy]
def oy.go{v:List T}(c:oy x v b5 b)(Q:v[b]?=some e)(ao:e.ck≤x):oy x v (b5++[e]) (b+1):=by
  exact acu
def oy.Qk{v:List T}(c:oy x v b5 b)(Q:v[b]?=some e)(ao:¬e.ck≤x):oy x v b5 (b+1):=by
  exact acu
def oy.vc{v:List T}(c:oy x v b5 b)(aw:(v.map T.id).Nodup)(ad:v.Perm (b5++qv))(Q:v[b]?=some e):e∈qv:=by
  have bh:e∈b5++qv:=ad.mem_iff.1 (eF Q)
  rcases iE.1 bh with G|G
  · exfalso
    rw [c] at G
    obtain ⟨k,ag⟩:=p9 (pt.1 G).1
    rw [k6] at ag
    split at ag
    · have J:(v.map T.id)[k]?=some e.id:=by rw [hy,ag];rfl
      have aA:(v.map T.id)[b]?=some e.id:=by rw [hy,Q];rfl
      obtain ⟨ue,Aw⟩:=dD.1 J
      obtain ⟨CF,sP⟩:=dD.1 aA
      have:=(Lc aw).1 (Aw.trans sP.symm)
      omega
    · cases ag
  · exact G
def oy.all{v:List T}(c:oy x v b5 b)(ac:¬b < v.length):b5=v.filter fun F=>decide (F.ck≤x):=by unfold oy at c;rwa [ir E] at c
end
end Go.LK.g
namespace Go.LK.g
open Go Go.LK
structure aO where
  x:Int
  bS:Int
  aY:Int
  bb:Int
  d:dM
  bz:sq
  A:o0
  af:fh
  cX:List (Int×bn)
  dc:hA
  cd:List cI
  y:ab.ht
structure aO.bC (h:b3) (aj:aO):Prop where
  d:aj.d.bC h
  bz:aj.bz.bC
  A:aj.A.bC h
  b:gp h aj.af aj.cX aj.cd aj.dc
  e8:((aj.A.u++c5 aj.af).map T.id).Nodup
  nH:0≤aj.x
  hn:aj.x≤1099511627776
  fG:0≤aj.aY
  i':0≤aj.bb
  gQ:(aj.bz.b7.length:Int)=h.fW
  m':ab.oY aj.y
def sq.C(H:sq):List Int:=iY H.b7 H.z H.s
structure aO.hb (aj:aO) (s:Nat):Prop where
  t:aj.aY≤s
  i:aj.bb≤6*s
  j:aj.cd.length≤6*s
  s:s≤10000
def mo(h:b3)(e:Int):Bool:=decide (0≤e)&&decide (e < (h.k1.length:Int))
def nJ(h:b3)(id aE O am a1 bM:Int):Bool:=ra id aE O am a1 bM&&decide (O=h.al)&&(decide (aE=-1) || mo h aE)&&decide (am < h.ap)
def iU(x aa am a1:Int):Int:=if a1≤x then 3 else if ab.r6 am aa=true then 0 else 2
def p1(aj:aO)(id:Int):Bool:=(cx aj.cX id).isSome || (cx aj.A.t id).isSome || (cx aj.bz.t id).isSome
def l'(h:b3)(bb:Int):Int:=(h.al+1)*1099511627776+(bb+1)%1099511627776
def Pr{Y:Nat}{t:List (Int×bn)}{id:Int}{k:bn}(c:cx t id=some k):∀ j,(c1 (h4 Y t)).holds j→(bF k.m 1 (k.cr.map bH)).holds j∧∀ d∈(bF k.m 1 (k.cr.map bH)).dT,d∈(c1 (h4 Y t)).dT:=fun j bU=>by
  obtain ⟨G,J⟩:=Ca (apN (Y:=Y) c) j bU
  obtain ⟨aA,aZ⟩:=jz j G
  exact LS
def r7(z:cG→gM)(f:List cG):(mw z f).2.length≤f.length:=by unfold mw;split<;>simp
def tR(h:b3)(x:Int)(e:T)(dC:Int×List aK×List bk×List Int)(H:gM):Int×List aK×List bk×List Int :=
  if H.code≠0 then (dC.1,dC.2.1++[⟨6,x,h.al,e.id,H.code,H.O,0⟩],dC.2.2.1,dC.2.2.2)
  else (dC.1+1,dC.2.1++[⟨5,x,h.al,e.id,0,H.O,l' h dC.1⟩],dC.2.2.1++[⟨1,l' h dC.1,h.al,H.O,e.am,H.a1,H.bM,0,0,0,0,0,0,0,0,0,0,0,0,0,0,0,0⟩],if H.nK=true then dC.2.2.2++[l' h dC.1] else dC.2.2.2)
def rD(h:b3)(x:Int)(e:T)(C:List gM)(dC:Int×List aK×List bk×List Int):Int×List aK×List bk×List Int:=C.foldl (tR h x e) dC
structure l8 (h:b3) (x:Int) (e:T) (C:List gM) (d:Nat) (a_ eX:List aK) (aH j6:List bk) (bb c0:Int) (c2:List Int):Prop where
  e:rD h x e (C.take d) (bb,a_,aH,[])=(c0,eX,j6,c2)
  s1:eX.length≤a_.length+d
  yN:j6.length≤aH.length+d
  w7:c2.length≤d
  i':bb≤c0
  c0:c0≤bb+d
section
variable {h:b3} {x:Int} {e:T} {C:List gM} {H:gM} {d:Nat} {a_ eX:List aK} {aH j6:List bk} {bb c0:Int} {c2:List Int}
def l8.zero:l8 h x e C 0 a_ a_ aH aH bb bb []:=⟨rfl,by simp,by simp,by simp,sf _,by omega⟩
def MK(W:C[d]?=some H)(c:rD h x e (C.take d) (bb,a_,aH,[])=(c0,eX,j6,c2)):rD h x e (C.take (d+1)) (bb,a_,aH,[])=tR h x e (c0,eX,j6,c2) H:=by
  unfold rD at c ⊢;rw [hx,W,p6,c];rfl
def l8.skip(c:l8 h x e C d a_ eX aH j6 bb c0 c2)(W:C[d]?=some H)(aS:H.code≠0):l8 h x e C (d+1) a_ (eX++[⟨6,x,h.al,e.id,H.code,H.O,0⟩]) aH j6 bb c0 c2 :=
  ⟨(MK W c.e).trans (by unfold tR;rw [ee aS]),by have:=c.s1;simp;omega,by have:=c.yN;omega,by have:=c.w7;omega,c.i',by have:=c.c0;omega⟩
def l8.call(c:l8 h x e C d a_ eX aH j6 bb c0 c2)(W:C[d]?=some H)(aS:¬H.code≠0)(cs:H.nK=false):l8 h x e C (d+1) a_ (eX++[⟨5,x,h.al,e.id,0,H.O,l' h c0⟩]) aH (j6++[⟨1,l' h c0,h.al,H.O,e.am,H.a1,H.bM,0,0,0,0,0,0,0,0,0,0,0,0,0,0,0,0⟩]) bb (c0+1) c2 :=
  ⟨(MK W c.e).trans (by unfold tR;rw [be aS,be (by rw [cs];decide)]),by have:=c.s1;simp;omega,by have:=c.yN;simp;omega,by have:=c.w7;omega,by have:=c.i';omega,by have:=c.c0;omega⟩
def l8.Jr(c:l8 h x e C d a_ eX aH j6 bb c0 c2)(W:C[d]?=some H)(aS:¬H.code≠0)(cs:H.nK=true):l8 h x e C (d+1) a_ (eX++[⟨5,x,h.al,e.id,0,H.O,l' h c0⟩]) aH (j6++[⟨1,l' h c0,h.al,H.O,e.am,H.a1,H.bM,0,0,0,0,0,0,0,0,0,0,0,0,0,0,0,0⟩]) bb (c0+1) (c2++[l' h c0]) :=
  ⟨(MK W c.e).trans (by unfold tR;rw [be aS,ee cs]),by have:=c.s1;simp;omega,by have:=c.yN;simp;omega,by have:=c.w7;simp;omega,by have:=c.i';omega,by have:=c.c0;omega⟩
def l8.done(c:l8 h x e C d a_ eX aH j6 bb c0 c2)(R:¬d < C.length):rD h x e C (bb,a_,aH,[])=(c0,eX,j6,c2):=by have:=c.e;rwa [ir E] at this
end
def UK{bi mU:Type}{z:mU→bi→mU}{f:List bi}{p is:mU}{b:Nat}{F:bi}(az:f[b]?=some F)(c:is=(f.take b).foldl z p):z is F=(f.take (b+1)).foldl z p:=by rw [hx,az,p6,←c];rfl
def UJ{bi mU:Type}{z:mU→bi→mU}{f:List bi}{p is:mU}{b:Nat}(c:is=(f.take b).foldl z p)(ac:¬b < f.length):is=f.foldl z p:=by rwa [ir E] at c
section
variable {f:List cI} {i k:Int}
def Tn:(bj.add f i k).length≤f.length+1:=by
  unfold bj.add;split
  · omega
  · rw [bj.I_];exact oQ _
def WG:∀ {f:List cI} {n:cI},n∈bj.hO f i k→n∈f∨n.ff=k
  | [],n,c=>by simp [bj.hO] at c;exact .inr (by rw [c])
  | A :: f,n,c=>by
    simp only [bj.hO] at c
    split at c
    · rcases fb.1 c with rfl|c
      · exact .inl p5
      · rcases WG c with c|c
        · exact .inl (gS _ c)
        · exact .inr c
    · rcases fb.1 c with rfl|c
      · exact .inr rfl
      · exact .inl c
def agj{n:cI}(c:n∈bj.add f i k):n∈f∨n.ff=k:=by
  unfold bj.add at c;split at c
  · exact .inl c
  · exact WG c
def pD(cd:List cI)(t:List (Int×bn)):Prop:=∀ n∈cd,(cx t n.ff).isSome=true
def pD.add{t:List (Int×bn)}(c:pD f t)(ag:(cx t k).isSome=true):pD (bj.add f i k) t:=fun n ad=>by
  rcases agj ad with G|G
  · exact c n G
  · rw [G];exact ag
def pD.put{t:List (Int×bn)}{id:Int}{m:bn}(c:pD f t):pD f (e' t id m):=fun n ad=>by
  rw [lQ];split
  · rfl
  · exact c n ad
end
def D7(h:b3)(x:Int)(d:dM)(e:T)(af c':fh)(t dF:List (Int×bn))(cd hE:List cI)(a_ hX:List aK)(aH iw:List bk)(code:Int):Prop :=
  xP h.b1.toNat af c' e∧(c5 af).Perm (e :: c5 c')∧dF=e3 t e.id∧hE=bj.drop cd e.id∧hX=a_++[ek x h.al (e,code)]∧iw=aH++[eB h.al d (e,code)]
def Ee(h:b3)(x:Int)(d cD:dM)(u cU:List T)(af c':fh)(t dF:List (Int×bn))(cd hE:List cI)(a_ hX:List aK)(aH iw:List bk)(e:T)(code:Int):Prop :=
  ∃ fK dG eX ls,D7 h x d e af fK t dG cd hE a_ eX aH iw code∧k_ h x d cD u cU fK c' dG dF eX hX ls∧xK h cU (c5 c')
def jL(bg:Int)(cr:List Int)(i code:Int):Int:=if bg=2∧i∈cr then (if code=1 then (if Go.LK.bn.c8 cr i=[] then 1 else 0) else 7) else 0
def oa(bg:Int)(cr:List Int)(i:Int):List Int:=if bg=2∧i∈cr then Go.LK.bn.c8 cr i else cr
def Hq(h:b3)(x:Int)(d cD:dM)(u cU:List T)(af c':fh)(t dF:List (Int×bn))(cd hE:List cI)(a_ hX:List aK)(aH iw:List bk)(k:bn)(i code:Int):Prop :=
  (jL k.bg k.cr i code=0∧cU=u∧c'=af∧cD=d∧hE=cd∧hX=a_∧iw=aH∧∃ eM:bn,eM.e=k.e∧eM.bg=k.bg∧eM.cr=oa k.bg k.cr i∧dF=e' t k.e.id eM) ∨
  (jL k.bg k.cr i code≠0∧Ee h x d cD u cU af c' t dF cd hE a_ hX aH iw k.e (jL k.bg k.cr i code))
def l1(h:b3)(d:dM)(y:ab.ht)(e:T)(x:Int):Int×List gM:=mw (fun i=>fX i d.aR e.am x e.ck (fI y h.bD i.O e.am x)) h.bb
def zv(h:b3)(x:Int)(d:dM)(y:ab.ht)(e:T)(af c':fh)(t dF:List (Int×bn))(cd hE:List cI)(i fk:Int)(a_ hX:List aK)(aH iw:List bk):Prop :=
  (hX.length≤a_.length+7∧iw.length≤aH.length+7) ∧
  (((l1 h d y e x).1≠0∧fk=i∧D7 h x d e af c' t dF cd hE a_ hX aH iw (l1 h d y e x).1) ∨
   ((l1 h d y e x).1=0∧∃ eX j6 c2,rD h x e (l1 h d y e x).2 (i,a_,aH,[])=(fk,eX,j6,c2) ∧
    ((c2=[]∧D7 h x d e af c' t dF cd hE eX hX j6 iw 1) ∨
     (c2≠[]∧c'=af∧hX=eX∧iw=j6∧hE=c2.foldl (fun f F=>bj.add f F e.id) cd∧∃ eM:bn,eM.e=e∧eM.bg=2∧eM.cr=Go.LK.bn.rising c2∧dF=e' t e.id eM))))
structure zx (aj bs:aO) (a_:List aK) (aH:List bk) (r i:Int):Prop where
  r:r=i
  H:bs=aj
  a_:a_=[]
  aH:aH=[]
def sp(h:b3)(aj:aO)(id aE O am a1 bM:Int)(bs:aO)(a_:List aK)(aH:List bk)(r:Int):Prop :=
  (nJ h id aE O am a1 bM=false∧zx aj bs a_ aH r 1) ∨
  (nJ h id aE O am a1 bM=true∧r=0∧(bs.x=aj.x∧bs.bS=aj.bS∧bs.bb=aj.bb∧bs.cd=aj.cd∧bs.y=aj.y)∧bs.bz.C=(if p1 aj id=true then aj.bz.C else gJ aj.bz.C aj.bz.b7.length id) ∧
    ((p1 aj id=true∧a_=[⟨2,aj.x,h.al,id,0,0,0⟩]∧aH=[]∧bs.aY=aj.aY∧bs.d=aj.d∧bs.A=aj.A∧bs.af=aj.af∧bs.cX=aj.cX) ∨
     (p1 aj id=false∧∃ dR eX ls,
       ((iU aj.x (cY h aj.d am).aa am a1≠0∧bs.aY=aj.aY∧dR=aj.A.u∧eX=[⟨1,aj.x,h.al,id,iU aj.x (cY h aj.d am).aa am a1,am,(cY h aj.d am).aa⟩,ek aj.x h.al (⟨id,am,aE,a1,bM,aj.x,0⟩,iU aj.x (cY h aj.d am).aa am a1)]∧aH=[eB h.al (cY h aj.d am) (⟨id,am,aE,a1,bM,aj.x,0⟩,iU aj.x (cY h aj.d am).aa am a1)]) ∨
        (iU aj.x (cY h aj.d am).aa am a1=0∧bs.aY=aj.aY+1∧zz h aj.x (cY h aj.d am) ⟨id,am,aE,a1,bM,aj.x,aj.aY+1⟩ aj.A.u dR [⟨1,aj.x,h.al,id,iU aj.x (cY h aj.d am).aa am a1,am,(cY h aj.d am).aa⟩] eX [] aH)) ∧
       k_ h aj.x (cY h aj.d am) bs.d dR bs.A.u aj.af bs.af aj.cX bs.cX eX a_ ls∧xK h bs.A.u (c5 bs.af))))
def uR(h:b3)(aj:aO)(id:Int)(bs:aO)(a_:List aK)(aH:List bk)(r:Int):Prop :=
  (cx aj.cX id=none∧zx aj bs a_ aH r 7)∨∃ k,cx aj.cX id=some k ∧
  ((k.bg≠1∧zx aj bs a_ aH r 12)∨(k.bg=1∧r=0∧(bs.x=aj.x∧bs.bS=aj.bS∧bs.aY=aj.aY∧bs.bb=aj.bb∧bs.y=aj.y∧bs.bz=aj.bz)∧Ee h aj.x aj.d bs.d aj.A.u bs.A.u aj.af bs.af aj.cX bs.cX aj.cd bs.cd [] a_ [] aH k.e 10))
def tA(h:b3)(aj:aO)(id:Int)(bs:aO)(a_:List aK)(aH:List bk)(r:Int):Prop :=
  (cx aj.cX id=none∧zx aj bs a_ aH r 7)∨∃ k,cx aj.cX id=some k ∧
  ((k.bg≠1∧zx aj bs a_ aH r 12)∨(k.bg=1∧r=0∧(bs.x=aj.x∧bs.bS=aj.bS∧bs.aY=aj.aY∧bs.y=aj.y∧bs.bz=aj.bz)∧∃ fK dG eX ls,zv h aj.x aj.d aj.y k.e aj.af fK aj.cX dG aj.cd bs.cd aj.bb bs.bb [] eX [] aH∧k_ h aj.x aj.d bs.d aj.A.u bs.A.u fK bs.af dG bs.cX eX a_ ls∧xK h bs.A.u (c5 bs.af)))
def wk(h:b3)(aj:aO)(id aE O code aa aP aR:Int)(bs:aO)(a_:List aK)(aH:List bk)(r:Int):Prop :=
  ((mP id aE O code aa aP aR&&decide (O=h.al)&&mo h aE)=false∧zx aj bs a_ aH r 1) ∨
  ((mP id aE O code aa aP aR&&decide (O=h.al)&&mo h aE)=true∧r=0∧(bs.x=aj.x∧bs.bS=aj.bS∧bs.aY=aj.aY∧bs.bb=aj.bb∧bs.bz=aj.bz)∧bs.y=(ab.fA aj.y aE aa aP aj.x).1 ∧
    ∃ eX:List aK,eX=(if (ab.fA aj.y aE aa aP aj.x).2=true then [⟨8,aj.x,h.al,aP,0,aE,aa⟩] else [])++[⟨7,aj.x,h.al,id,code,aE,if (bj.dX aj.cd id).isSome=true then 1 else 0⟩] ∧
    ((bj.dX aj.cd id=none∧a_=eX∧aH=[]∧bs.d=aj.d∧bs.A=aj.A∧bs.af=aj.af∧bs.cX=aj.cX∧bs.cd=bj.c8 aj.cd id) ∨
     ∃ k,bj.dX aj.cd id=some k.e.id∧cx aj.cX k.e.id=some k∧Hq h aj.x aj.d bs.d aj.A.u bs.A.u aj.af bs.af aj.cX bs.cX (bj.c8 aj.cd id) bs.cd eX a_ [] aH k id code))
def J0(d:dM):List Int→dM
  | [fG,dG,e9,fi,im,h',hP]=>yW d fG dG e9 fi im h' hP
  | _=>d
def wh(h:b3)(aj:aO)(O bS:Int)(ey:List Int)(bs:aO)(a_:List aK)(aH:List bk)(r:Int):Prop :=
  ((qw O (O :: bS :: ey)&&decide (O=h.al))=false∧zx aj bs a_ aH r 1) ∨
  ((qw O (O :: bS :: ey)&&decide (O=h.al))=true∧r=0∧(bs.x=aj.x∧bs.aY=aj.aY∧bs.bb=aj.bb∧bs.bz=aj.bz∧bs.A=aj.A∧bs.af=aj.af∧bs.cX=aj.cX∧bs.cd=aj.cd∧bs.y=aj.y) ∧
    ∃ p:Bool,p=(decide (aj.bS < bS)&&decide (h7.e7 ey h.ap=0))∧bs.bS=(if p=true then bS else aj.bS)∧bs.d=(if p=true then J0 aj.d ey else aj.d)∧a_=[⟨10,aj.x,h.al,bS,if p=true then 1 else 0,0,0⟩]∧aH=[])
def wn(h:b3)(aj:aO)(bs:aO)(a_:List aK)(aH:List bk)(r:Int):Prop :=
  r=0∧bs.x=later aj.x 1∧(bs.bS=aj.bS∧bs.aY=aj.aY∧bs.bb=aj.bb∧bs.bz=aj.bz∧bs.y=aj.y)∧∃ (v dR b5:List T) (fK:fh) (dG:List (Int×bn)) (eX km:List aK) (j6:List bk) (ls:List T) (bJ:dM),
    v.Perm aj.A.u∧v.Pairwise le∧dR.Perm (k9 v bs.x v.length) ∧
    rs h bs.x aj.d aj.af fK aj.cX dG aj.cd bs.cd ((np v bs.x v.length).map fun e=>ek bs.x h.al (e,ew e bs.x)) eX ((np v bs.x v.length).map fun e=>eB h.al aj.d (e,ew e bs.x)) j6 b5∧b5=(c5 aj.af).filter (fun F=>decide (F.ck≤bs.x)) ∧
    ((¬bs.x%h.qD=0∧km=eX∧bJ=aj.d)∨(bs.x%h.qD=0∧bJ=gs h aj.d∧km=eX++[⟨9,bs.x,h.al,bJ.aP,sx aj.d,bJ.aa,bJ.aR⟩])) ∧
    k_ h bs.x bJ bs.d dR bs.A.u fK bs.af dG bs.cX km a_ ls∧aH=j6∧xK h bs.A.u (c5 bs.af)
def wm(h:b3)(aj:aO)(bs:aO)(a_:List aK)(aH:List bk)(r:Int):Prop :=
  r=0∧aH=[]∧(bs.x=aj.x∧bs.bS=aj.bS∧bs.aY=aj.aY∧bs.bb=aj.bb)∧bs.A.u=[]∧bs.af=List.replicate 16 none∧bs.bz.C=[]∧bs.y=ab.nil∧bs.cX=[]∧bs.cd=[]∧bs.d=iB h aj.d ∧
  ∃ v:List T,v.Perm aj.A.u∧v.Pairwise le∧a_=(v++c5 aj.af).map (fun e=>⟨12,aj.x,h.al,e.id,0,e.am,0⟩)++[⟨11,aj.x,h.al,bs.d.aP,0,bs.d.aa,0⟩]
section
variable {h:b3} {aj bs:aO} {s:Nat} {id:Int}
def aO.hb.up(c:aj.hb s)(aw:s≤9000):aj.hb (s+1):=⟨by have:=c.t;omega,by have:=c.i;omega,by have:=c.j;omega,by omega⟩
def KA(aW:aj.bC h)(c:p1 aj id=false):∀ F∈aj.A.u++c5 aj.af,F.id≠id:=by
  unfold p1 at c
  simp only [Bool.or_eq_false_iff] at c
  obtain ⟨⟨G,J⟩,_⟩:=c
  intro F az
  rcases iE.1 az with az|az
  · exact aW.A.R.yP.1 J F az
  · refine aW.b.k.r5.1 ?_ F az
    cases bq:cx aj.cX id with
    | none=>rfl
    | some k=>rw [bq] at G;cases G
def AL{u ec qv:List T}{e:T}(aw:((u++ec).map T.id).Nodup)(ad:ec.Perm (e :: qv)):((u++qv).map T.id).Nodup:=by
  have G:=((Bt u ad).map T.id).nodup_iff.1 aw
  have J:((e :: (u++qv)).map T.id).Nodup:=((tq (a:=e) (l₁:=u) (l₂:=qv)).map T.id).nodup_iff.1 G
  rw [kO,kP] at J
  exact J.2
def D7.e8{x:Int}{d:dM}{e:T}{u:List T}{af c':fh}{t dF:List (Int×bn)}{cd hE:List cI}{a_ hX:List aK}{aH iw:List bk}{code:Int}(c:D7 h x d e af c' t dF cd hE a_ hX aH iw code)(aw:((u++c5 af).map T.id).Nodup):((u++c5 c').map T.id).Nodup:=AL aw c.2.1
def Ee.e8{x:Int}{d cD:dM}{u cU:List T}{af c':fh}{t dF:List (Int×bn)}{cd hE:List cI}{a_ hX:List aK}{aH iw:List bk}{e:T}{code:Int}(c:Ee h x d cD u cU af c' t dF cd hE a_ hX aH iw e code)(aw:((u++c5 af).map T.id).Nodup):((cU++c5 c').map T.id).Nodup:=by
  obtain ⟨fK,dG,eX,ls,ad,bw,_⟩:=c
  exact bw.e8 (ad.e8 aw)
def Hq.e8{x:Int}{d cD:dM}{u cU:List T}{af c':fh}{t dF:List (Int×bn)}{cd hE:List cI}{a_ hX:List aK}{aH iw:List bk}{k:bn}{i code:Int}(c:Hq h x d cD u cU af c' t dF cd hE a_ hX aH iw k i code)(aw:((u++c5 af).map T.id).Nodup):((cU++c5 c').map T.id).Nodup:=by
  rcases c with ⟨_,rfl,rfl,_⟩|⟨_,c⟩
  · exact aw
  · exact c.e8 aw
def zv.e8{x:Int}{d:dM}{y:ab.ht}{e:T}{u:List T}{af c':fh}{t dF:List (Int×bn)}{cd hE:List cI}{i fk:Int}{a_ hX:List aK}{aH iw:List bk}(c:zv h x d y e af c' t dF cd hE i fk a_ hX aH iw)(aw:((u++c5 af).map T.id).Nodup):((u++c5 c').map T.id).Nodup:=by
  rcases c.2 with ⟨_,_,c⟩|⟨_,_,_,_,_,⟨_,c⟩|⟨_,rfl,_⟩⟩
  · exact c.e8 aw
  · exact c.e8 aw
  · exact aw
def zv.len{x:Int}{d:dM}{y:ab.ht}{e:T}{af c':fh}{t dF:List (Int×bn)}{cd hE:List cI}{i fk:Int}{a_ hX:List aK}{aH iw:List bk}(c:zv h x d y e af c' t dF cd hE i fk a_ hX aH iw):hX.length≤a_.length+7∧iw.length≤aH.length+7:=c.1
def yx{bg:Int}{f:List Int}{i code:Int}(c:¬(bg=2∧i∈f)):jL bg f i code=0∧oa bg f i=f:=by unfold jL oa;rw [be c,be c];exact ⟨rfl,rfl⟩
def Wi{bg:Int}{f:List Int}{i code:Int}(G:bg=2)(J:i∈f)(aA:¬code=1):jL bg f i code=7:=by unfold jL;rw [ee ⟨G,J⟩,be aA]
def Wj{bg:Int}{f:List Int}{i code:Int}(G:bg=2)(J:i∈f)(aA:code=1)(aZ:Go.LK.bn.c8 f i=[]):jL bg f i code=1:=by unfold jL;rw [ee ⟨G,J⟩,ee aA,ee aZ]
def I1{bg:Int}{f:List Int}{i code:Int}(G:bg=2)(J:i∈f)(aA:code=1)(aZ:¬Go.LK.bn.c8 f i=[]):jL bg f i code=0∧oa bg f i=Go.LK.bn.c8 f i:=by unfold jL oa;rw [ee ⟨G,J⟩,ee aA,be aZ,ee ⟨G,J⟩];exact ⟨rfl,rfl⟩
def aws{B:List Int}(bU:p1 aj id=true)(c:B=aj.bz.C):B=(if p1 aj id=true then aj.bz.C else gJ aj.bz.C aj.bz.b7.length id):=by rw [ee bU,c]
def awr{B:List Int}(aW:aj.bC h)(G:cx aj.cX id=none)(J:(cx aj.A.t id).isSome=false)(c:B=gJ aj.bz.C aj.bz.b7.length id):B=(if p1 aj id=true then aj.bz.C else gJ aj.bz.C aj.bz.b7.length id):=by
  rw [c]
  split
  · rename_i aA
    unfold p1 at aA;rw [G,J] at aA
    exact aW.bz.hf.gu (by simpa using aA)
  · rfl
def WU:∀ {f:List cI} {i k:Int},bj.dX f i=some k→∃ n∈f,n.ff=k
  | [],_,_,c=>by simp [bj.dX] at c
  | n :: f,i,k,c=>by
    simp only [bj.dX] at c
    split at c
    · cases c;exact ⟨n,p5,rfl⟩
    · obtain ⟨A,a6,aC⟩:=WU c
      exact ⟨A,gS _ a6,aC⟩
def gp.ff{af:fh}{t:List (Int×bn)}{cd:List cI}{dc:hA}(c:gp h af t cd dc){i mL:Int}(ag:bj.dX cd i=some mL):∃ k,cx t k.e.id=some k∧mL=k.e.id:=by
  obtain ⟨n,ad,aC⟩:=WU ag
  obtain ⟨k,bq⟩:=uK.1 (c.j n ad)
  obtain ⟨_,Q,_⟩:=c.k.ff _ _ bq
  exact ⟨k,by rw [Q];exact bq,by rw [Q,aC]⟩
def gp.AW{af:fh}{t:List (Int×bn)}{cd:List cI}{dc kb:hA}(c:gp h af t cd dc){i:Int}(cs:bj.hI (bj.c8 cd i) kb):gp h af t (bj.c8 cd i) kb :=
  ⟨c.S,c.av,c.k,cs,fun n ad=>c.j n (pt.1 ad).1,iZ bj.tl c.vP⟩
def gp.zero{dc:hA}(cs:bj.hI [] dc):gp h (List.replicate 16 none) [] [] dc :=
  ⟨Bu,ahc,⟨by rw [Ja];simp,by simp [ex],fun id k c=>by simp [cx] at c,fun e c=>by rw [Ja] at c;simp at c⟩,cs,fun n c=>by simp at c,by simp⟩
def O7(l p:Int):0≤later l p∧later l p≤1099511627776:=ab.Gt _
def Pf{bi mU:Type}{z:bi→mU}{f:List bi}{d:Nat}{e:bi}(Q:f[d]?=some e):(f.take (d+1)).map z=(f.take d).map z++[z e]:=by rw [hx,Q];simp
def Pd{bi mU:Type}{z:bi→mU}{f:List bi}{d:Nat}(R:¬d < f.length):(f.take d).map z=f.map z:=by rw [ir E]
def I5{u cU v ec qv b5:List T}{x:Int}(aw:((u++ec).map T.id).Nodup)(bw:v.Perm u)(bA:cU.Perm (k9 v x v.length))(ag:ec.Perm (b5++qv)):((cU++qv).map T.id).Nodup:=by
  have G:((v++(b5++qv)).map T.id).Nodup:=(((bw.symm.append_right ec).trans (Bt v ag)).map T.id).nodup_iff.1 aw
  have J:(k9 v x v.length++qv).Sublist (v++(b5++qv)):=List.Sublist.append (by unfold k9;exact zd.trans (List.take_sublist _ _)) (List.sublist_append_right _ _)
  exact (((bA.append_right qv).map T.id).nodup_iff).2 (G.sublist (J.map _))
end
end Go.LK.g
