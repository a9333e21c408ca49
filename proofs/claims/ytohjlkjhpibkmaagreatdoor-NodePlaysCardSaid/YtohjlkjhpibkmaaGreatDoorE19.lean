/-
  Walks, printed by a program of mine.
-/
import Derived.KernelRfl
import Derived.Test.YtohjlkjhpibkmaaGreatDoorE16
import Derived.Test.YtohjlkjhpibkmaaGreatDoorE18
import Derived.Test.YtohjlkjhpibkmaaGreatDoorE06
import Derived.Test.YtohjlkjhpibkmaaGreatDoorE03
set_option linter.all false
namespace Go.Proofs.YtohjlkjhpibkmaaGreatDoor
open Go Go.LK Go.Proofs.Tryz
set_option maxRecDepth 100000
set_option maxHeartbeats 4000000
def aww(z u:Int)(ae:List (List Value))(e:List Value):Prop:=e=[.b (z+(ae.length:Int))]∧(z+(ae.length:Int))≤u
def awv(z u:Int)(ae:List (List Value)):Prop:=u < (z+(ae.length:Int))
def anL(f' gt:Nat)(z u:Int)(bc:0≤z)(bA:u≤128):sl prog 375 #[f',gt] [ai f' [z] 3,ai gt [u] 3] (aww z u) (awv z u):=by
  refine sl.enter (nj:=[f',gt]) (body:=_) 16 func375 rfl ntmps375 rfl kf ?_
  intro f Pm bo N dH cJ hR hk aF aJ ii fM az bB fS dI
  refine ⟨ai f' [z] 3 :: ai gt [u] 3 :: aF,fun ar bI=>fM ar zh,?_⟩
  refine bl.seq ?_
  refine bl.region ?_
  refine bX.A (aV.hh rfl (eZ.lF 0 rfl) (v:=0) (off:=0) rfl (fr.one isAgg3 rfl)) rfl ?_
  refine bX.n (U.assign rfl) rfl ?_
  refine bX.nil ?_
  refine bl.block ?_
  refine bl.loop (bo:=List (List Value)×bo) (fun c3=>dH c3.1 c3.2) (fun c3=>[(0,.func (.yield f) #[] #[]),(2,.n gt),(4,.b (z+(c3.1.length:Int)))]) (fun c3=>cJ c3.2) (fun c3=>(u-(z+(c3.1.length:Int))+1).toNat) ⟨[],ii⟩ bB ⟨rfl,rfl,hM (by dsimp only [List.length_nil];omega),trivial⟩ (List.range (cJ ii).length) tp (xe _) ?_
  rintro ⟨ae,F⟩ kI
  dsimp only at kI
  refine bl.seq ?_
  refine bl.seq ?_
  refine bl.region ?_
  refine bX.n (U.move rfl) rfl ?_
  refine bX.A (aV.hh rfl (eZ.lF 1 rfl) (v:=0) (off:=0) rfl (fr.one isAgg3 rfl)) rfl ?_
  refine bX.n (U.leq rfl rfl) rfl ?_
  refine bX.n (U.move rfl) rfl ?_
  by_cases n:(z+(ae.length:Int))≤u
  · have av:decide ((z+(ae.length:Int))≤u)=true:=c9 n
    refine bX.kV rfl rfl av rfl (U.move rfl) rfl ?_
    refine bX.kV rfl rfl av rfl (U.move rfl) rfl ?_
    refine bX.U4 (f:=f) (ae:=[.b (z+(ae.length:Int))]) [] (cJ F) (bN:=fun qi B=>match qi with|true=>∃ hj,dH (ae++[[.b (z+(ae.length:Int))]]) hj∧B=cJ hj|false=>∃ aI,hR aI∧B=hk aI) rfl rfl av rfl rfl rfl rfl rfl rfl (fun ok eS jw lf=>?_) rfl ?_
    · have fw:=cM.Dj ok jw
      refine YieldAt.xm (az _ F _ eS kI ⟨rfl,n⟩ (fun ar bI=>fw ar zh) lf) ?_
      rintro r dY (⟨rfl,hj,jM,eY⟩|⟨rfl,aI,ce,eY⟩)
      · exact ⟨true,_,rfl,⟨hj,jM,rfl⟩,eY⟩
      · exact ⟨false,_,rfl,⟨aI,ce,rfl⟩,eY⟩
    · rintro qi B dj
      refine bX.n (U.s7 rfl av rfl) rfl ?_
      refine bX.nil ?_
      cases qi
      · obtain ⟨aI,ce,rfl⟩:=dj
        refine bl.fZ rfl rfl ?_
        refine bl.exit _ rfl ?_
        exact bl.done fun ok l j V W=>dI _ _ _ (.inl rfl) V.defers (.inr ⟨aI,ce,by simpa using W⟩)
      · obtain ⟨hj,jM,rfl⟩:=dj
        refine bl.lN rfl rfl ?_
        refine bl.skip ?_
        refine bl.seq ?_
        refine bl.block ?_
        refine bl.skip ?_
        refine bl.cE ?_
        refine bl.region ?_
        refine bX.n (U.move rfl) rfl ?_
        refine bX.n (U.hJ rfl rfl kR) rfl ?_
        refine bX.n (U.assign rfl) rfl ?_
        refine bX.nil ?_
        have gI:(ae++[[Value.b (z+(ae.length:Int))]]).length=ae.length+1:=by simp
        refine bl.gW (ae++[[.b (z+(ae.length:Int))]],hj) jM DJ ⟨rfl,rfl,hM DJ,trivial⟩ (List.range ([]++cJ hj).length) tp (xe _)
  · have av:decide ((z+(ae.length:Int))≤u)=false:=p4 n
    have bp:o4 (.bool (decide ((z+(ae.length:Int))≤u)))≠some true:=by rw [av];simp [o4]
    refine bX.iI rfl rfl bp rfl rfl ?_
    refine bX.iI rfl rfl bp rfl rfl ?_
    refine bX.iI rfl rfl bp rfl rfl ?_
    refine bX.n (U.w_ rfl av rfl) rfl ?_
    refine bX.nil ?_
    refine bl.fZ rfl rfl ?_
    refine bl.exit _ rfl ?_
    exact bl.done fun ok l j V W=>dI _ _ _ (.inl rfl) V.defers (.inl ⟨ae,F,(show u < (z+(ae.length:Int)) from by omega),kI,W⟩)
def QE(z u:Int):M prog 338 #[z,u] [] [] (fun m B=>∃ f' gt,m=.func (.func 375) #[] #[.n f',.n gt]∧B=[ai f' [z] 3,ai gt [u] 3]):=by
 refine M.aM func338 a ntmps338 a fun an=>?_
 exact adK
def aiw(z u:Int)(ae:List (List Value))(e:List Value):Prop:=e=[.b (z-(ae.length:Int))]∧u≤(z-(ae.length:Int))
def aiv(z u:Int)(ae:List (List Value)):Prop:=(z-(ae.length:Int)) < u
def anJ(f' gt:Nat)(z u:Int)(bc:z≤128)(bA:0≤u):sl prog 376 #[f',gt] [ai f' [z] 3,ai gt [u] 3] (aiw z u) (aiv z u):=by
  refine sl.enter (nj:=[f',gt]) (body:=_) 16 func376 rfl ntmps376 rfl kf ?_
  intro f Pm bo N dH cJ hR hk aF aJ ii fM az bB fS dI
  refine ⟨ai f' [z] 3 :: ai gt [u] 3 :: aF,fun ar bI=>fM ar zh,?_⟩
  refine bl.seq ?_
  refine bl.region ?_
  refine bX.A (aV.hh rfl (eZ.lF 0 rfl) (v:=0) (off:=0) rfl (fr.one isAgg3 rfl)) rfl ?_
  refine bX.n (U.assign rfl) rfl ?_
  refine bX.nil ?_
  refine bl.block ?_
  refine bl.loop (bo:=List (List Value)×bo) (fun c3=>dH c3.1 c3.2) (fun c3=>[(0,.func (.yield f) #[] #[]),(2,.n gt),(4,.b (z-(c3.1.length:Int)))]) (fun c3=>cJ c3.2) (fun c3=>(z-(c3.1.length:Int)-u+1).toNat) ⟨[],ii⟩ bB ⟨rfl,rfl,hM (by dsimp only [List.length_nil];omega),trivial⟩ (List.range (cJ ii).length) tp (xe _) ?_
  rintro ⟨ae,F⟩ kI
  dsimp only at kI
  refine bl.seq ?_
  refine bl.seq ?_
  refine bl.region ?_
  refine bX.n (U.move rfl) rfl ?_
  refine bX.A (aV.hh rfl (eZ.lF 1 rfl) (v:=0) (off:=0) rfl (fr.one isAgg3 rfl)) rfl ?_
  refine bX.n (U.geq rfl rfl) rfl ?_
  refine bX.n (U.move rfl) rfl ?_
  by_cases n:u≤(z-(ae.length:Int))
  · have av:decide (u≤(z-(ae.length:Int)))=true:=c9 n
    refine bX.kV rfl rfl av rfl (U.move rfl) rfl ?_
    refine bX.kV rfl rfl av rfl (U.move rfl) rfl ?_
    refine bX.U4 (f:=f) (ae:=[.b (z-(ae.length:Int))]) [] (cJ F) (bN:=fun qi B=>match qi with|true=>∃ hj,dH (ae++[[.b (z-(ae.length:Int))]]) hj∧B=cJ hj|false=>∃ aI,hR aI∧B=hk aI) rfl rfl av rfl rfl rfl rfl rfl rfl (fun ok eS jw lf=>?_) rfl ?_
    · have fw:=cM.Dj ok jw
      refine YieldAt.xm (az _ F _ eS kI ⟨rfl,n⟩ (fun ar bI=>fw ar zh) lf) ?_
      rintro r dY (⟨rfl,hj,jM,eY⟩|⟨rfl,aI,ce,eY⟩)
      · exact ⟨true,_,rfl,⟨hj,jM,rfl⟩,eY⟩
      · exact ⟨false,_,rfl,⟨aI,ce,rfl⟩,eY⟩
    · rintro qi B dj
      refine bX.n (U.s7 rfl av rfl) rfl ?_
      refine bX.nil ?_
      cases qi
      · obtain ⟨aI,ce,rfl⟩:=dj
        refine bl.fZ rfl rfl ?_
        refine bl.exit _ rfl ?_
        exact bl.done fun ok l j V W=>dI _ _ _ (.inl rfl) V.defers (.inr ⟨aI,ce,by simpa using W⟩)
      · obtain ⟨hj,jM,rfl⟩:=dj
        refine bl.lN rfl rfl ?_
        refine bl.skip ?_
        refine bl.seq ?_
        refine bl.block ?_
        refine bl.skip ?_
        refine bl.cE ?_
        refine bl.region ?_
        refine bX.n (U.move rfl) rfl ?_
        refine bX.n (U.lG rfl rfl kR) rfl ?_
        refine bX.n (U.assign rfl) rfl ?_
        refine bX.nil ?_
        have gI:(ae++[[Value.b (z-(ae.length:Int))]]).length=ae.length+1:=by simp
        refine bl.gW (ae++[[.b (z-(ae.length:Int))]],hj) jM DJ ⟨rfl,rfl,hM DJ,trivial⟩ (List.range ([]++cJ hj).length) tp (xe _)
  · have av:decide (u≤(z-(ae.length:Int)))=false:=p4 n
    have bp:o4 (.bool (decide (u≤(z-(ae.length:Int)))))≠some true:=by rw [av];simp [o4]
    refine bX.iI rfl rfl bp rfl rfl ?_
    refine bX.iI rfl rfl bp rfl rfl ?_
    refine bX.iI rfl rfl bp rfl rfl ?_
    refine bX.n (U.w_ rfl av rfl) rfl ?_
    refine bX.nil ?_
    refine bl.fZ rfl rfl ?_
    refine bl.exit _ rfl ?_
    exact bl.done fun ok l j V W=>dI _ _ _ (.inl rfl) V.defers (.inl ⟨ae,F,(show (z-(ae.length:Int)) < u from by omega),kI,W⟩)
def aw8(z u:Int):M prog 340 #[z,u] [] [] (fun m B=>∃ f' gt,m=.func (.func 376) #[] #[.n f',.n gt]∧B=[ai f' [z] 3,ai gt [u] 3]):=by
 refine M.aM func340 a ntmps340 a fun an=>?_
 exact adK
def aw7(jH jI:Nat)(kq:Int)(c:Nat)(ap:Int)(S:List Int)(e:Int)(aw:S.length=128)(gB:0≤ap)(hm:ap≤128):M prog 339 #[e,jH,jI] [ai jH [c] 169,ai jI [kq] 3,ai c ([Value.b ap]++S.map (Value.int .i64)) 302] [] (fun m B=>m=.bool (decide (kq≤g.iu ap S e))∧B=[]):=by
 refine M.aM func339 a ntmps339 a fun an=>?_
 exact adH
def aw4(jH jI:Nat)(kq:Int)(c:Nat)(ap:Int)(S:List Int)(e:Int)(aw:S.length=128)(gB:0≤ap)(hm:ap≤128):M prog 341 #[e,jH,jI] [ai jH [c] 169,ai jI [kq] 3,ai c ([Value.b ap]++S.map (Value.int .i64)) 302] [] (fun m B=>m=.bool (decide (g.iu ap S e≤kq))∧B=[]):=by
 refine M.aM func341 a ntmps341 a fun an=>?_
 exact adH
def aw_(f' gt jH jI:Nat)(z u kq:Int)(c:Nat)(ap:Int)(S:List Int)(v:Int)(bc:0≤z)(bA:u≤ap)(bw:0≤v∧v≤ap)(aw:S.length=128)(gB:0≤ap)(hm:ap≤128):M prog 337 #[.func (.func 375) #[] #[f',gt],.func (.func 339) #[] #[jH,jI],v] [ai f' [z] 3,ai gt [u] 3,ai jH [c] 169,ai jI [kq] 3,ai c ([Value.b ap]++S.map (Value.int .i64)) 302] [] (fun m B=>m=.b (g.qW (g.vM ap S kq) z u v)∧B=[]):=by
 refine M.Ic (args:=[.func (.func 375) #[] #[f',gt],.func (.func 339) #[] #[jH,jI],v]) (body:=_) 15 func337 rfl ntmps337 rfl ?_
 intro an
 refine bl.seq ?_
 refine bl.region ?_
 refine bX.f (aq.box [.func (.func 339) #[] #[jH,jI]] rfl rfl) rfl ?_
 rintro _ _ ⟨b9,rfl,rfl⟩
 refine bX.f (aq.alloc [.b 0] Ls rfl) rfl ?_
 rintro _ _ ⟨cS,rfl,rfl⟩
 refine bX.nil ?_
 refine bl.seq ?_
 refine bl.seq ?_
 refine bl.region ?_
 refine bX.n (U.move rfl) rfl ?_
 refine bX.nil ?_
 refine bl.block ?_
 refine bl.Kz [(2,.b v),(4,.n b9),(6,.n cS),(8,.func (.func 375) #[] #[f',gt])] ⟨rfl,rfl,rfl,rfl,trivial⟩ ?_
 refine bl.PT (f':=375) (bo:=Unit) (N:=Int) (fun ae c3=>∀ gl:Nat,gl < ae.length→¬g.vM ap S kq (z+(gl:Int))=true) (fun c3=>[ai b9 [.func (.func 339) #[] #[jH,jI]] 140,ai cS [.b 0] 3]) (fun e c3=>e=.ret∧(c3=g.qW (g.vM ap S kq) z u v)) (fun c3=>[ai b9 [.func (.func 339) #[] #[jH,jI]] 140,ai cS [c3] 3]) rfl rfl (fun _ _=>by rfl) (anL f' gt z u bc E) (fun ae e nC=>by obtain ⟨rfl,_⟩:=nC;rfl) rfl ⟨⟩ (fun gl au=>absurd au (ts _)) [1,0] bd rfl (fun ar bI=>by simp only [fb,oq,or_false] at bI;rcases bI with rfl|rfl<;>simp) (fun eS tF r2 rp A8 lI xw bG EY E2 ul OM=>?_) (fun r2 rp pn lI xw Fc ul=>?_) (fun r2 rp pn bG aI ul=>?_)
 ·
  obtain ⟨rfl,NX⟩:=OM
  have cF:∀ gl:Nat,gl < lI.length→¬g.vM ap S kq (z+(gl:Int))=true:=ul
  show bl _ _ _ ([(9,.b (z+(lI.length:Int)))]++[(2,.b v),(4,.n b9),(6,.n cS),(8,.func (.func 375) #[] #[f',gt])]) [cE r2 (.loop (A8 .ready none)),cE rp (.deferred (some [])),ai b9 [.func (.func 339) #[] #[jH,jI]] 140,ai cS [.b 0] 3]
  refine bl.region ?_
  refine bX.n (U.assign rfl) rfl ?_
  refine bX.nil ?_
  refine bl.begin (EY _ _) ?_
  refine bl.block ?_
  refine bl.seq ?_
  refine bl.region ?_
  refine bX.A (aV.hh rfl (eZ.ai 2 rfl) (v:=0) (off:=0) rfl (fr.one isAgg140 rfl)) rfl ?_
  refine bX.n (U.move rfl) rfl ?_
  refine bX.f (aq.Cd (ae:=[.b (z+(lI.length:Int))]) (fP:=[jH,jI]) (by exact call339) rfl rfl (aw7 jH jI kq c ap S (z+(lI.length:Int)) aw gB hm) [] [0,1,2,3] bd rfl [cE r2 (.loop { A8 .ready none with state:=.busy }),cE rp (.deferred (some [])),ai b9 [.func (.func 339) #[] #[jH,jI]] 140,ai cS [.b 0] 3] rfl (eI.b0 2 rfl [] rfl (eI.b0 3 rfl [] rfl (eI.b0 4 rfl [] rfl eI.nil)))) rfl ?_
  rintro _ _ ⟨_,⟨rfl,rfl⟩,rfl⟩
  refine bX.nil ?_
  refine bl.cond rfl (fun c7=>?_) (fun c7=>?_)
  ·
   have j9:=dp c7
   refine bl.seq ?_
   refine bl.region ?_
   refine bX.n (U.move rfl) rfl ?_
   refine bX.cq (aq.store 3 (ae:=[.b (z+(lI.length:Int))]) [.b (z+(lI.length:Int))] rfl rfl rfl G5 rfl rfl rfl rfl rfl) ?_
   rintro _ _ rfl
   refine bX.nil ?_
   exact mB.ret (z+(lI.length:Int)) (show (Code.ret=.ret)∧((z+(lI.length:Int))=g.qW (g.vM ap S kq) z u v) from ⟨rfl,(g.UN cF (c9 bO) NX)⟩) rfl [0,1,2,3] bd rfl (fun _=>E2 .ready none .done _)
  ·
   have kM:=fa c7
   refine bl.skip ?_
   refine bl.cE ?_
   exact mB.Ju (Z:={ A8 .ready none with state:=.busy }) ⟨⟩ (show ∀ gl:Nat,gl < (lI++[[Value.b (z+(lI.length:Int))]]).length→¬g.vM ap S kq (z+(gl:Int))=true from aa2) rfl [0,1,2,3] bd rfl (E2 .ready none .ready none)
 ·
  have cF:∀ gl:Nat,gl < lI.length→¬g.vM ap S kq (z+(gl:Int))=true:=ul
  have cF:=g.ajh (v:=v) cF Fc
  show bl _ _ _ [(2,.b v),(4,.n b9),(6,.n cS),(8,.func (.func 375) #[] #[f',gt])] [cE r2 (.loop pn),cE rp (.deferred (some [])),ai b9 [.func (.func 339) #[] #[jH,jI]] 140,ai cS [.b 0] 3]
  exact ac4
 ·
  obtain ⟨rfl,Ww⟩:=ul
  show bl _ _ _ [(2,.b v),(4,.n b9),(6,.n cS),(8,.func (.func 375) #[] #[f',gt])] [cE r2 (.loop pn),cE rp (.deferred (some [])),ai b9 [.func (.func 339) #[] #[jH,jI]] 140,ai cS [aI] 3]
  exact RX
def aw9(f' gt jH jI:Nat)(z u kq:Int)(c:Nat)(ap:Int)(S:List Int)(v:Int)(bc:z≤ap)(bA:0≤u)(bw:0≤v∧v≤ap)(aw:S.length=128)(gB:0≤ap)(hm:ap≤128):M prog 337 #[.func (.func 376) #[] #[f',gt],.func (.func 341) #[] #[jH,jI],v] [ai f' [z] 3,ai gt [u] 3,ai jH [c] 169,ai jI [kq] 3,ai c ([Value.b ap]++S.map (Value.int .i64)) 302] [] (fun m B=>m=.b (g.nx (g.tW ap S kq) z u v)∧B=[]):=by
 refine M.Ic (args:=[.func (.func 376) #[] #[f',gt],.func (.func 341) #[] #[jH,jI],v]) (body:=_) 15 func337 rfl ntmps337 rfl ?_
 intro an
 refine bl.seq ?_
 refine bl.region ?_
 refine bX.f (aq.box [.func (.func 341) #[] #[jH,jI]] rfl rfl) rfl ?_
 rintro _ _ ⟨b9,rfl,rfl⟩
 refine bX.f (aq.alloc [.b 0] Ls rfl) rfl ?_
 rintro _ _ ⟨cS,rfl,rfl⟩
 refine bX.nil ?_
 refine bl.seq ?_
 refine bl.seq ?_
 refine bl.region ?_
 refine bX.n (U.move rfl) rfl ?_
 refine bX.nil ?_
 refine bl.block ?_
 refine bl.Kz [(2,.b v),(4,.n b9),(6,.n cS),(8,.func (.func 376) #[] #[f',gt])] ⟨rfl,rfl,rfl,rfl,trivial⟩ ?_
 refine bl.PT (f':=376) (bo:=Unit) (N:=Int) (fun ae c3=>∀ gl:Nat,gl < ae.length→¬g.tW ap S kq (z-(gl:Int))=true) (fun c3=>[ai b9 [.func (.func 341) #[] #[jH,jI]] 140,ai cS [.b 0] 3]) (fun e c3=>e=.ret∧(c3=g.nx (g.tW ap S kq) z u v)) (fun c3=>[ai b9 [.func (.func 341) #[] #[jH,jI]] 140,ai cS [c3] 3]) rfl rfl (fun _ _=>by rfl) (anJ f' gt z u E bA) (fun ae e nC=>by obtain ⟨rfl,_⟩:=nC;rfl) rfl ⟨⟩ (fun gl au=>absurd au (ts _)) [1,0] bd rfl (fun ar bI=>by simp only [fb,oq,or_false] at bI;rcases bI with rfl|rfl<;>simp) (fun eS tF r2 rp A8 lI xw bG EY E2 ul OM=>?_) (fun r2 rp pn lI xw Fc ul=>?_) (fun r2 rp pn bG aI ul=>?_)
 ·
  obtain ⟨rfl,NX⟩:=OM
  have cF:∀ gl:Nat,gl < lI.length→¬g.tW ap S kq (z-(gl:Int))=true:=ul
  show bl _ _ _ ([(9,.b (z-(lI.length:Int)))]++[(2,.b v),(4,.n b9),(6,.n cS),(8,.func (.func 376) #[] #[f',gt])]) [cE r2 (.loop (A8 .ready none)),cE rp (.deferred (some [])),ai b9 [.func (.func 341) #[] #[jH,jI]] 140,ai cS [.b 0] 3]
  refine bl.region ?_
  refine bX.n (U.assign rfl) rfl ?_
  refine bX.nil ?_
  refine bl.begin (EY _ _) ?_
  refine bl.block ?_
  refine bl.seq ?_
  refine bl.region ?_
  refine bX.A (aV.hh rfl (eZ.ai 2 rfl) (v:=0) (off:=0) rfl (fr.one isAgg140 rfl)) rfl ?_
  refine bX.n (U.move rfl) rfl ?_
  refine bX.f (aq.Cd (ae:=[.b (z-(lI.length:Int))]) (fP:=[jH,jI]) (by exact call341) rfl rfl (aw4 jH jI kq c ap S (z-(lI.length:Int)) aw gB hm) [] [0,1,2,3] bd rfl [cE r2 (.loop { A8 .ready none with state:=.busy }),cE rp (.deferred (some [])),ai b9 [.func (.func 341) #[] #[jH,jI]] 140,ai cS [.b 0] 3] rfl (eI.b0 2 rfl [] rfl (eI.b0 3 rfl [] rfl (eI.b0 4 rfl [] rfl eI.nil)))) rfl ?_
  rintro _ _ ⟨_,⟨rfl,rfl⟩,rfl⟩
  refine bX.nil ?_
  refine bl.cond rfl (fun c7=>?_) (fun c7=>?_)
  ·
   have j9:=dp c7
   refine bl.seq ?_
   refine bl.region ?_
   refine bX.n (U.move rfl) rfl ?_
   refine bX.cq (aq.store 3 (ae:=[.b (z-(lI.length:Int))]) [.b (z-(lI.length:Int))] rfl rfl rfl G5 rfl rfl rfl rfl rfl) ?_
   rintro _ _ rfl
   refine bX.nil ?_
   exact mB.ret (z-(lI.length:Int)) (show (Code.ret=.ret)∧((z-(lI.length:Int))=g.nx (g.tW ap S kq) z u v) from ⟨rfl,(g.UM cF (c9 bO) NX)⟩) rfl [0,1,2,3] bd rfl (fun _=>E2 .ready none .done _)
  ·
   have kM:=fa c7
   refine bl.skip ?_
   refine bl.cE ?_
   exact mB.Ju (Z:={ A8 .ready none with state:=.busy }) ⟨⟩ (show ∀ gl:Nat,gl < (lI++[[Value.b (z-(lI.length:Int))]]).length→¬g.tW ap S kq (z-(gl:Int))=true from aa2) rfl [0,1,2,3] bd rfl (E2 .ready none .ready none)
 ·
  have cF:∀ gl:Nat,gl < lI.length→¬g.tW ap S kq (z-(gl:Int))=true:=ul
  have cF:=g.ajc (v:=v) cF Fc
  show bl _ _ _ [(2,.b v),(4,.n b9),(6,.n cS),(8,.func (.func 376) #[] #[f',gt])] [cE r2 (.loop pn),cE rp (.deferred (some [])),ai b9 [.func (.func 341) #[] #[jH,jI]] 140,ai cS [.b 0] 3]
  exact ac4
 ·
  obtain ⟨rfl,Ww⟩:=ul
  show bl _ _ _ [(2,.b v),(4,.n b9),(6,.n cS),(8,.func (.func 376) #[] #[f',gt])] [cE r2 (.loop pn),cE rp (.deferred (some [])),ai b9 [.func (.func 341) #[] #[jH,jI]] 140,ai cS [aI] 3]
  exact RX
def akL(c:Nat)(ap:Int)(S:List Int)(aw:S.length=128)(gB:0≤ap)(hm:ap≤128):M prog 372 #[c] [ai c ([Value.b ap]++S.map (Value.int .i64)) 302] [] (fun m B=>B=[row m 3 1 ((S.take ap.toNat).map bH)]):=by
 refine M.aM func372 a ntmps372 a fun an=>?_
 refine I 0 ?_
 refine w.n (U.jA Hs a) a ?_
 refine I 0 ?_
 refine K.ef (df [(1,8),(0,0),(9,0),(10,1)]) [] Tryz.bE aN a ?_
 refine aD 1 ?_
 refine aL.n a (U.akx Er dt a a E E) a ?_
 refine aL.f a (aq.tQ bH gz dt) a ?_
 rintro kh _ rfl
 refine gr.kV [] [] a a ?_
 refine aL.f a (aq.gg 0 qN nE a a a a a (ax.akn (f:=S) 0 a a aw E bd) bH.one abd abd) a ?_
 rintro wu _ rfl
 refine gr.iS [] a aN<|aL.Z 1 a<|aL.nil ?_
 exact cH
def Z8(c:Nat)(ap:Int)(S:List Int)(aw:S.length=128)(gB:0≤ap)(hm:ap≤128):M prog 333 #[c] [ai c ([Value.b ap]++S.map (Value.int .i64)) 302] [] (fun m B=>m=.b ap∧B=[]):=by
 refine M.aM func333 a ntmps333 a fun an=>?_
 refine I 0 ?_
 refine w.f (aq.fl call372 (akL c ap S aw gB hm) [] a a (.b0 0 a .nil)) a ?_
 rintro ti _ ⟨_,rfl,rfl⟩
 refine aF ?_
 exact aO ⟨dz (Value.int .i64) (by rw [ib,aw];omega),a⟩
def aw6(c:Nat)(ap:Int)(S:List Int)(aa mM:Int)(aw:S.length=128)(gB:0≤ap)(hm:ap≤128):M prog 284 #[c,aa,mM] [ai c ([Value.b ap]++S.map (Value.int .i64)) 302] [] (fun m B=>m=.b (g.oi ap S aa mM)∧B=[]):=by
 have aln:=ab.gP aa gB
 refine M.aM func284 a ntmps284 a fun an=>?_
 refine P Z8 ?_
 refine P lb ?_
 refine I 0 ?_
 intro b9
 refine K.kD Tryz.bE ?_
 refine ar.gV 2 8 a ?_ ?_
 refine ar.fH (df [(0,2),(3,1),(5,1),(8,0),(2,0),(4,0),(6,2),(9,0)]) [0] aN a ?_
 refine P CG ?_
 intro mG
 have E7:=g.wD (ap:=ap) (S:=S) (e:=ab.cc aa ap)
 refine P Oj ?_
 have Wq:=g.wD (ap:=ap) (S:=S) (e:=128)
 refine P H4 ?_
 refine P rC ?_
 refine P QE ?_
 rintro _ _ ⟨tY,Io,rfl,rfl⟩
 refine w.n (U.makeFunc [b9,mG] a) a ?_
 exact RR
 refine ar.gV 4 8 a ?_ ?_
 refine ar.fH (df [(0,2),(3,1),(5,1),(2,0),(8,0),(4,0),(6,2),(9,0)]) [0] aN a ?_
 refine P CG ?_
 have E7:=g.wD (ap:=ap) (S:=S) (e:=ab.cc aa ap)
 refine P Oj ?_
 intro ajk
 have Wq:=g.wD (ap:=ap) (S:=S) (e:=128)
 refine P H4 ?_
 refine P rC ?_
 refine P QE ?_
 rintro _ _ ⟨ajl,UP,rfl,rfl⟩
 refine w.n (U.makeFunc [b9,ajk] a) a ?_
 exact RR
 refine ar.fH (df [(0,2),(3,1),(5,1),(2,0),(4,0),(6,2),(8,0),(9,0)]) [0] aN a ?_
 refine P CG ?_
 have E7:=g.wD (ap:=ap) (S:=S) (e:=ab.cc aa ap)
 refine P Oj ?_
 have Wq:=g.wD (ap:=ap) (S:=S) (e:=128)
 refine P H4 ?_
 refine P rC ?_
 refine aL.f a (aq.iS iF a) a ?_
 rintro _ _ ⟨ajm,rfl,rfl⟩
 refine gr.kV [1] [0] a a ?_
 refine aL.cq a (aq.dC 0 dt a a a a a a a) ?_
 rintro _ _ rfl
 refine gr.iS [1] a aN<|aL.nil ?_
 refine I 1 ?_
 refine P QE ?_
 rintro _ _ ⟨In,g22,rfl,rfl⟩
 refine w.n (U.makeFunc [b9,ajm] a) a ?_
 exact RR
def aw3(c:Nat)(ap:Int)(S:List Int)(aa n6 cut:Int)(aw:S.length=128)(gB:0≤ap)(hm:ap≤128):M prog 285 #[c,aa,n6,cut] [ai c ([Value.b ap]++S.map (Value.int .i64)) 302] [] (fun m B=>m=.b (g.ma ap S aa n6 cut)∧B=[]):=by
 have aln:=ab.gP aa gB
 have aAo:=ab.gP n6 gB
 refine M.aM func285 a ntmps285 a fun an=>?_
 refine P Z8 ?_
 refine P lb ?_
 refine P lb ?_
 refine aU ?_ ?_
 refine aF ?_
 intros
 exact abS
 refine P CG ?_
 intro b9 _
 have E7:=g.wD (ap:=ap) (S:=S) (e:=ab.cc aa ap)
 refine P H4 ?_
 have aAy:0≤g.pX (g.iu ap S (ab.cc aa ap)) (ab.cc cut 100)∧g.pX (g.iu ap S (ab.cc aa ap)) (ab.cc cut 100)≤2147483647:=ab.gP _ bd
 refine P aw8 ?_
 intro Io
 rintro _ _ ⟨Ip,Il,rfl,rfl⟩
 refine w.n (U.makeFunc [b9,Io] a) a ?_
 refine P aw9 ?_
 refine aF ?_
 exact abS
def ah2(i aG y c f:Nat)(ap bm cb bJ bR b4 bY b_ cy aa aP:Int)(S:List Int)(cA:Int)(aw:S.length=128)(gB:0≤ap)(hm:ap≤128)(sT:0≤aa)(hu:aa≤ap)(ne:0≤aP)(nz:aP≤4294967295):M prog 211 #[i,cA] [ai c ([Value.b ap]++S.map (Value.int .i64)) 302] [ai i [aG,y,ap,bm,cb,bJ,bR,b4,bY,b_,cy,c,f,aa,aP] 172] (fun m B=>m=.bool (!decide (g.hQ ap S aa b4 bY bR cA=aa))∧B=[ai i [aG,y,ap,bm,cb,bJ,bR,b4,bY,b_,cy,c,f,.b (g.hQ ap S aa b4 bY bR cA),.b (g.lB aa (g.hQ ap S aa b4 bY bR cA) aP)] 172]):=by
 refine M.aM func211 a ntmps211 a fun an=>?_
 refine aU ?_ ?_
 intros
 refine K.ef (df [(0,11),(11,0),(12,2),(14,0)]) [0] Tryz.bE aN a ?_
 refine P aw6 ?_
 have AI:=g.ZI (ap:=ap) (S:=S) (aa:=aa) (mM:=b4) gB
 refine aU ?_ ?_
 refine aF ?_
 intros
 exact aO (by have n7:g.hQ ap S aa b4 bY bR cA=g.oi ap S aa b4:=by { unfold g.hQ;(repeat' split)<;>first|rfl|(exfalso;omega) };have hE_:g.lB aa (g.oi ap S aa b4) aP=aP:=by { unfold g.lB;split<;>first|rfl|(exfalso;first|contradiction|omega) };rw [n7,hE_];exact ⟨by simp [ed, *],rfl⟩)
 refine P MX ?_
 refine aF ?_
 intros
 exact aO (by have n7:g.hQ ap S aa b4 bY bR cA=g.oi ap S aa b4:=by { unfold g.hQ;(repeat' split)<;>first|rfl|(exfalso;omega) };have hE_:g.lB aa (g.oi ap S aa b4) aP=ab.cc (aP+1) 4294967295:=by { unfold g.lB;split<;>first|rfl|(exfalso;first|contradiction|omega) };rw [n7,hE_];exact ⟨by simp [ed, *],rfl⟩)
 refine aU ?_ ?_
 intros
 refine K.ef (df [(0,16),(16,0),(17,2),(19,0)]) [0] Tryz.bE aN a ?_
 refine P aw3 ?_
 have AI:=g.Ug (ap:=ap) (S:=S) (aa:=aa) (mf:=bY) (cut:=bR) gB
 refine aU ?_ ?_
 refine aF ?_
 intros
 exact aO (by have n7:g.hQ ap S aa b4 bY bR cA=g.ma ap S aa bY bR:=by { unfold g.hQ;(repeat' split)<;>first|rfl|(exfalso;omega) };have hE_:g.lB aa (g.ma ap S aa bY bR) aP=aP:=by { unfold g.lB;split<;>first|rfl|(exfalso;first|contradiction|omega) };rw [n7,hE_];exact ⟨by simp [ed, *],rfl⟩)
 refine P MX ?_
 refine aF ?_
 intros
 exact aO (by have n7:g.hQ ap S aa b4 bY bR cA=g.ma ap S aa bY bR:=by { unfold g.hQ;(repeat' split)<;>first|rfl|(exfalso;omega) };have hE_:g.lB aa (g.ma ap S aa bY bR) aP=ab.cc (aP+1) 4294967295:=by { unfold g.lB;split<;>first|rfl|(exfalso;first|contradiction|omega) };rw [n7,hE_];exact ⟨by simp [ed, *],rfl⟩)
 refine I 1 ?_
 intros
 refine K.lN a oU ?_
 refine I 0 ?_
 refine aF ?_
 exact aO (by have n7:g.hQ ap S aa b4 bY bR cA=aa:=by { unfold g.hQ;(repeat' split)<;>first|rfl|(exfalso;omega) };have hE_:g.lB aa aa aP=aP:=by { unfold g.lB;split<;>first|rfl|(exfalso;first|contradiction|omega) };rw [n7,hE_];exact ⟨by simp [ed, *],rfl⟩)
def aim(y:Nat)(bm aR held:Int)(op:Bool)(ev e:Int)(jl:0≤aR)(lg:aR≤bm)(lh:bm≤7)(Q:e=0∨e=1∨e=2):M prog 213 #[y,e,.bool op,ev] [] [ai y [.bool true,bm,aR,held] 296] (fun m B=>m=.bool (g.iv bm aR held e op ev).1∧B=[ai y [.bool true,bm,.b ((g.iv bm aR held e op ev).2.1),.b ((g.iv bm aR held e op ev).2.2)] 296]):=by
  rcases Q with rfl|rfl|rfl
  · exact ain y bm aR held op ev jl lg lh
  · exact aio y bm aR held op ev jl lg lh
  · exact aip y bm aR held op ev jl lg lh
def ahV(i aG y c f:Nat)(ap bm cb bJ bR b4 bY b_ cy aa aP:Int)(cA held aR gh ez eA gb:Int)(S:List Int)(aw:S.length=128)(gB:0≤ap)(hm:ap≤128)(sT:0≤aa)(hu:aa≤ap)(ne:0≤aP)(nz:aP≤4294967295)(kY:-1≤cA)(gk:cA≤1)(jl:0≤aR)(lg:aR≤bm)(lh:bm≤7):M prog 106 #[i] [] [ai i [aG,y,ap,bm,cb,bJ,bR,b4,bY,b_,cy,c,f,aa,aP] 172,ai aG [cA,held] 309,ai y [.bool true,bm,aR,gh] 296,ai c ([Value.b ap]++S.map (Value.int .i64)) 302,ai f [ez,eA,gb] 311] (fun m B=>m=.agg #[.b (g.gn (g.gd eA ez) cb bJ),.b (g.hQ ap S aa b4 bY bR ((g.gD cA held (g.gn (g.gd eA ez) cb bJ) b_).1)),.b (g.iv bm aR gh (g.gn (g.gd eA ez) cb bJ) (decide (g.hQ ap S aa b4 bY bR ((g.gD cA held (g.gn (g.gd eA ez) cb bJ) b_).1)=ap)) cy).2.1,.b (g.lB aa (g.hQ ap S aa b4 bY bR ((g.gD cA held (g.gn (g.gd eA ez) cb bJ) b_).1)) aP),.bool (!decide (g.hQ ap S aa b4 bY bR ((g.gD cA held (g.gn (g.gd eA ez) cb bJ) b_).1)=aa)),.bool (g.iv bm aR gh (g.gn (g.gd eA ez) cb bJ) (decide (g.hQ ap S aa b4 bY bR ((g.gD cA held (g.gn (g.gd eA ez) cb bJ) b_).1)=ap)) cy).1]∧B=[ai i [aG,y,ap,bm,cb,bJ,bR,b4,bY,b_,cy,c,f,.b (g.hQ ap S aa b4 bY bR ((g.gD cA held (g.gn (g.gd eA ez) cb bJ) b_).1)),.b (g.lB aa (g.hQ ap S aa b4 bY bR ((g.gD cA held (g.gn (g.gd eA ez) cb bJ) b_).1)) aP)] 172,ai aG [.b (g.gD cA held (g.gn (g.gd eA ez) cb bJ) b_).2.1,.b (g.gD cA held (g.gn (g.gd eA ez) cb bJ) b_).2.2] 309,ai y [.bool true,bm,.b (g.iv bm aR gh (g.gn (g.gd eA ez) cb bJ) (decide (g.hQ ap S aa b4 bY bR ((g.gD cA held (g.gn (g.gd eA ez) cb bJ) b_).1)=ap)) cy).2.1,.b (g.iv bm aR gh (g.gn (g.gd eA ez) cb bJ) (decide (g.hQ ap S aa b4 bY bR ((g.gD cA held (g.gn (g.gd eA ez) cb bJ) b_).1)=ap)) cy).2.2] 296,ai c ([Value.b ap]++(List.replicate 128 (0:Int)).map (Value.int .i64)) 302,ai f [.b 0,.b 0,.b 0] 311]):=by
 refine M.aM func106 a ntmps106 a fun an=>?_
 refine P Ch ?_
 refine I 0 ?_
 intros
 refine K.fD 14 Tryz.bE aN ?_
 refine P ao' ?_
 refine I 0 ?_
 refine K.ef (df [(0,11),(11,0),(12,0),(13,1)]) [1] Tryz.bE aN a ?_
 refine P awo ?_
 have aAC:=g.Qu (held:=held) (m:=g.gn (g.gd eA ez) cb bJ) (ev:=b_) kY gk
 refine P ah2 ?_
 refine aD 1 ?_
 refine K.fD 19 Tryz.bE aN ?_
 refine P (aim y bm aR gh (decide ((g.hQ ap S aa b4 bY bR ((g.gD cA held (g.gn (g.gd eA ez) cb bJ) b_).1))=ap)) cy (g.gn (g.gd eA ez) cb bJ) jl lg lh (g.awF _ _ _)) ?_
 have N8:=g.M7 (held:=gh) (m:=g.gn (g.gd eA ez) cb bJ) (op:=decide ((g.hQ ap S aa b4 bY bR ((g.gD cA held (g.gn (g.gd eA ez) cb bJ) b_).1))=ap)) (ev:=cy) jl lg
 refine P T9 ?_
 refine I 0 ?_
 refine K.hW 14 Tryz.bE aN ?_
 refine P MW ?_
 exact cH
def auh(Z:Nat):M prog 258 #[Z] [] [] (fun m B=>B=[row m 336 5 ([g.nL,g.nM,g.nN,g.nO,g.nP,g.nQ].map (g.n0.cells Z))]):=by
 refine M.aM func258 a ntmps258 a fun an=>K.fC 5 a<|K.fD 24 Tryz.bE aN<|aj.Z 3 a<|aj.n (U.build [(0,.n Z),(1,.b 6),(2,.b 0),(3,.b 0),(4,.b 281474976710655)] [Z,.b 6,.b 0,.b 0,.b 281474976710655] #[(0,1),(1,1),(2,1),(3,1),(4,1)] BV rA (Dd BO) a aN) a<|aj.Z 3 a<|aj.n (U.build [(0,.pointer (some ⟨Z,1,none⟩)),(1,.b 1),(2,.b 1),(3,.b (-1)),(4,.b 7)] [.pointer (some ⟨Z,1,none⟩),.b 1,.b 1,.b (-1),.b 7] #[(0,1),(1,1),(2,1),(3,1),(4,1)] BV rA (Dd BO) a aN) a<|aj.Z 3 a<|aj.n (U.build [(0,.pointer (some ⟨Z,2,none⟩)),(1,.b 1),(2,.b 0),(3,.b 0),(4,.b 7)] [.pointer (some ⟨Z,2,none⟩),.b 1,.b 0,.b 0,.b 7] #[(0,1),(1,1),(2,1),(3,1),(4,1)] BV rA (Dd BO) a aN) a<|aj.Z 3 a<|aj.n (U.build [(0,.pointer (some ⟨Z,3,none⟩)),(1,.b 1),(2,.b 0),(3,.b 0),(4,.b 127)] [.pointer (some ⟨Z,3,none⟩),.b 1,.b 0,.b 0,.b 127] #[(0,1),(1,1),(2,1),(3,1),(4,1)] BV rA (Dd BO) a aN) a<|aj.Z 3 a<|aj.n (U.build [(0,.pointer (some ⟨Z,4,none⟩)),(1,.b 6),(2,.b 0),(3,.b 0),(4,.b 1099511627776)] [.pointer (some ⟨Z,4,none⟩),.b 6,.b 0,.b 0,.b 1099511627776] #[(0,1),(1,1),(2,1),(3,1),(4,1)] BV rA (Dd BO) a aN) a<|aj.Z 3 a<|aj.n (U.build [(0,.pointer (some ⟨Z,5,none⟩)),(1,.b 2),(2,.b 0),(3,.b 0),(4,.b 65535)] [.pointer (some ⟨Z,5,none⟩),.b 2,.b 0,.b 0,.b 65535] #[(0,1),(1,1),(2,1),(3,1),(4,1)] BV rA (Dd BO) a aN) a<|aj.Cl ?_
 refine w.f (aq.fs (g.n0.cells Z) [g.nL,g.nM,g.nN,g.nO,g.nP,g.nQ] xS n3 rA a a a aN a a) a ?_
 rintro kh _ rfl
 refine w.dw 2 a ?_
 exact K.l2 [0] a a a a
def aug(id aE O am a1 bM:Int):M prog 175 #[.agg #[id,aE,O,am,a1,bM]] [] [] (fun m B=>m=.b (if g.ra id aE O am a1 bM=true then 0 else 1)∧B=[]):=by
 have gF:g.nL.l=0:=rfl
 have x4:g.nL.p=281474976710655:=rfl
 have wA:g.nM.l=-1:=rfl
 have is:g.nM.p=7:=rfl
 have tP:g.nN.l=0:=rfl
 have j4:g.nN.p=7:=rfl
 have Ti:g.nO.l=0:=rfl
 have u7:g.nO.p=127:=rfl
 have Tj:g.nP.l=0:=rfl
 have B9:g.nP.p=1099511627776:=rfl
 have Tk:g.nQ.l=0:=rfl
 have B_:g.nQ.p=65535:=rfl
 refine M.aM func175 a ntmps175 a fun an=>K.eV 2 a ?_
 refine w.f (aq.pF a a) a ?_
 rintro _ _ ⟨b9,rfl,rfl⟩
 refine w.e1 5 a ?_
 refine w.f (aq.fl call258 (auh b9) [] a a .nil) a ?_
 rintro iK _ ⟨_,rfl,rfl⟩
 refine w.A (aV.jN xS a (ax.row 0 a)) a<|w.dw 3 a ?_
 refine K.loop (bo:=Nat) (fun c3=>c3≤6∧(1≤c3→0≤id∧id≤281474976710655)∧(2≤c3→-1≤aE∧aE≤7)∧(3≤c3→0≤O∧O≤7)∧(4≤c3→0≤am∧am≤127)∧(5≤c3→0≤a1∧a1≤1099511627776)∧(6≤c3→0≤bM∧bM≤65535)) (fun c3=>[(1,.n b9),(5,iK),(6,.b 6),(7,.b (c3:Int))]) (fun c3=>[ai b9 [id,aE,O,am,a1,bM] 41,row iK 336 5 (([g.nL,g.nM,g.nN,g.nO,g.nP,g.nQ]).map (g.n0.cells b9))]) (fun c3=>6-c3) 0 (show 0≤6∧(1≤0→0≤id∧id≤281474976710655)∧(2≤0→-1≤aE∧aE≤7)∧(3≤0→0≤O∧O≤7)∧(4≤0→0≤am∧am≤127)∧(5≤0→0≤a1∧a1≤1099511627776)∧(6≤0→0≤bM∧bM≤65535) from ⟨by omega,by omega,by omega,by omega,by omega,by omega,by omega⟩) ⟨a,a,a,(dz (fun aI=>some (Value.b aI)) (qK:(0:Int)=(0:Int))),trivial⟩ [1,0] bd a ?_
 rintro d vo
 obtain ⟨R,ep,fu,ux,PP,Yc,asL⟩:d≤6∧(1≤d→0≤id∧id≤281474976710655)∧(2≤d→-1≤aE∧aE≤7)∧(3≤d→0≤O∧O≤7)∧(4≤d→0≤am∧am≤127)∧(5≤d→0≤a1∧a1≤1099511627776)∧(6≤d→0≤bM∧bM≤65535):=vo
 show K _ _ [(1,.n b9),(5,iK),(6,.b 6),(7,.b (d:Int))] [ai b9 [id,aE,O,am,a1,bM] 41,row iK 336 5 (([g.nL,g.nM,g.nN,g.nO,g.nP,g.nQ]).map (g.n0.cells b9))]
 obtain rfl|rfl|rfl|rfl|rfl|rfl|rfl:d=0∨d=1∨d=2∨d=3∨d=4∨d=5∨d=6:=by omega
 show K _ _ [(1,.n b9),(5,iK),(6,.b 6),(7,.b 0)] [ai b9 [id,aE,O,am,a1,bM] 41,row iK 336 5 (([g.nL,g.nM,g.nN,g.nO,g.nP,g.nQ]).map (g.n0.cells b9))]
 refine K.eV 11 a ?_
 have h3:([g.nL,g.nM,g.nN,g.nO,g.nP,g.nQ])[0]?=some g.nL:=rfl
 refine w.A (aV.jy xS n3 a (ax.row 1 a) h3 a kf) a<|w.A (aV.lX isAgg336 n3 (ax.row 1 a) h3 0 a E a) a ?_
 refine w.f (aq.iS rA a) a ?_
 rintro _ _ ⟨qm,rfl,rfl⟩
 refine w.cq (aq.dC 0 n3 a a a a a a a) ?_
 rintro _ _ rfl
 refine w.dw 2 a<|K.kk Tryz.bE aN<|aj.Z 1 a<|aj.A (aV.br 0 sj a a a) a<|aj.Z 1 a<|aj.A (aV.br 1 ds a a a) a<|aj.Z 1 a<|aj.A (aV.br 0 ds a a a) a<|aj.Z 2 a ?_
 refine aj.qC 18 a (fun iW=>?_) (fun iW=>?_)
 exact DY
 refine aj.Z 1 a<|aj.el (aV.br 0 sj a a a) a a<|aj.Z 1 a<|aj.el (aV.br 1 ds a a a) a a<|aj.Z 1 a<|aj.el (aV.br 0 ds a a a) a a<|aj.Z 2 a<|aj.qT ?_
 refine K.jt a (fun j9=>?_) (fun j9=>?_)
 exact BF
 refine K.eV 3 a<|w.n (U.hJ a a E) a<|w.dw 2 a ?_
 exact K.gW 1 (show 1≤6∧(1≤1→0≤id∧id≤281474976710655)∧(2≤1→-1≤aE∧aE≤7)∧(3≤1→0≤O∧O≤7)∧(4≤1→0≤am∧am≤127)∧(5≤1→0≤a1∧a1≤1099511627776)∧(6≤1→0≤bM∧bM≤65535) from ⟨by omega,by omega,by omega,by omega,by omega,by omega,by omega⟩) (show 6-1 < 6-0 from E) ⟨a,a,a,(dz (fun aI=>some (Value.b aI)) (qK:(0+1:Int)=(1:Int))),trivial⟩ [1,2] bd a
 show K _ _ [(1,.n b9),(5,iK),(6,.b 6),(7,.b 1)] [ai b9 [id,aE,O,am,a1,bM] 41,row iK 336 5 (([g.nL,g.nM,g.nN,g.nO,g.nP,g.nQ]).map (g.n0.cells b9))]
 refine K.eV 11 a ?_
 have sL:([g.nL,g.nM,g.nN,g.nO,g.nP,g.nQ])[1]?=some g.nM:=rfl
 refine w.A (aV.jy xS n3 a (ax.row 1 a) sL a kf) a<|w.A (aV.lX isAgg336 n3 (ax.row 1 a) sL 0 a E a) a ?_
 refine w.f (aq.iS rA a) a ?_
 rintro _ _ ⟨Ip,rfl,rfl⟩
 refine w.cq (aq.dC 0 n3 a a a a a a a) ?_
 rintro _ _ rfl
 refine w.dw 2 a<|K.kk Tryz.bE aN<|aj.Z 1 a<|aj.A (aV.br 0 sj a a a) a<|aj.Z 1 a<|aj.A (aV.br 1 ds a a a) a<|aj.Z 1 a<|aj.A (aV.br 0 ds a a a) a<|aj.Z 2 a ?_
 refine aj.qC 18 a (fun pj=>?_) (fun pj=>?_)
 exact DY
 refine aj.Z 1 a<|aj.el (aV.br 0 sj a a a) a a<|aj.Z 1 a<|aj.el (aV.br 1 ds a a a) a a<|aj.Z 1 a<|aj.el (aV.br 0 ds a a a) a a<|aj.Z 2 a<|aj.qT ?_
 refine K.jt a (fun qy=>?_) (fun qy=>?_)
 exact BF
 refine K.eV 3 a<|w.n (U.hJ a a E) a<|w.dw 2 a ?_
 exact K.gW 2 (show 2≤6∧(1≤2→0≤id∧id≤281474976710655)∧(2≤2→-1≤aE∧aE≤7)∧(3≤2→0≤O∧O≤7)∧(4≤2→0≤am∧am≤127)∧(5≤2→0≤a1∧a1≤1099511627776)∧(6≤2→0≤bM∧bM≤65535) from ⟨by omega,by omega,by omega,by omega,by omega,by omega,by omega⟩) (show 6-2 < 6-1 from E) ⟨a,a,a,(dz (fun aI=>some (Value.b aI)) (qK:(1+1:Int)=(2:Int))),trivial⟩ [1,2] bd a
 show K _ _ [(1,.n b9),(5,iK),(6,.b 6),(7,.b 2)] [ai b9 [id,aE,O,am,a1,bM] 41,row iK 336 5 (([g.nL,g.nM,g.nN,g.nO,g.nP,g.nQ]).map (g.n0.cells b9))]
 refine K.eV 11 a ?_
 have q1:([g.nL,g.nM,g.nN,g.nO,g.nP,g.nQ])[2]?=some g.nN:=rfl
 refine w.A (aV.jy xS n3 a (ax.row 1 a) q1 a kf) a<|w.A (aV.lX isAgg336 n3 (ax.row 1 a) q1 0 a E a) a ?_
 refine w.f (aq.iS rA a) a ?_
 rintro _ _ ⟨ayp,rfl,rfl⟩
 refine w.cq (aq.dC 0 n3 a a a a a a a) ?_
 rintro _ _ rfl
 refine w.dw 2 a<|K.kk Tryz.bE aN<|aj.Z 1 a<|aj.A (aV.br 0 sj a a a) a<|aj.Z 1 a<|aj.A (aV.br 1 ds a a a) a<|aj.Z 1 a<|aj.A (aV.br 0 ds a a a) a<|aj.Z 2 a ?_
 refine aj.qC 18 a (fun s5=>?_) (fun s5=>?_)
 exact DY
 refine aj.Z 1 a<|aj.el (aV.br 0 sj a a a) a a<|aj.Z 1 a<|aj.el (aV.br 1 ds a a a) a a<|aj.Z 1 a<|aj.el (aV.br 0 ds a a a) a a<|aj.Z 2 a<|aj.qT ?_
 refine K.jt a (fun FU=>?_) (fun FU=>?_)
 exact BF
 refine K.eV 3 a<|w.n (U.hJ a a E) a<|w.dw 2 a ?_
 exact K.gW 3 (show 3≤6∧(1≤3→0≤id∧id≤281474976710655)∧(2≤3→-1≤aE∧aE≤7)∧(3≤3→0≤O∧O≤7)∧(4≤3→0≤am∧am≤127)∧(5≤3→0≤a1∧a1≤1099511627776)∧(6≤3→0≤bM∧bM≤65535) from ⟨by omega,by omega,by omega,by omega,by omega,by omega,by omega⟩) (show 6-3 < 6-2 from E) ⟨a,a,a,(dz (fun aI=>some (Value.b aI)) (qK:(2+1:Int)=(3:Int))),trivial⟩ [1,2] bd a
 show K _ _ [(1,.n b9),(5,iK),(6,.b 6),(7,.b 3)] [ai b9 [id,aE,O,am,a1,bM] 41,row iK 336 5 (([g.nL,g.nM,g.nN,g.nO,g.nP,g.nQ]).map (g.n0.cells b9))]
 refine K.eV 11 a ?_
 have yo:([g.nL,g.nM,g.nN,g.nO,g.nP,g.nQ])[3]?=some g.nO:=rfl
 refine w.A (aV.jy xS n3 a (ax.row 1 a) yo a kf) a<|w.A (aV.lX isAgg336 n3 (ax.row 1 a) yo 0 a E a) a ?_
 refine w.f (aq.iS rA a) a ?_
 rintro _ _ ⟨Np,rfl,rfl⟩
 refine w.cq (aq.dC 0 n3 a a a a a a a) ?_
 rintro _ _ rfl
 refine w.dw 2 a<|K.kk Tryz.bE aN<|aj.Z 1 a<|aj.A (aV.br 0 sj a a a) a<|aj.Z 1 a<|aj.A (aV.br 1 ds a a a) a<|aj.Z 1 a<|aj.A (aV.br 0 ds a a a) a<|aj.Z 2 a ?_
 refine aj.qC 18 a (fun Db=>?_) (fun Db=>?_)
 exact DY
 refine aj.Z 1 a<|aj.el (aV.br 0 sj a a a) a a<|aj.Z 1 a<|aj.el (aV.br 1 ds a a a) a a<|aj.Z 1 a<|aj.el (aV.br 0 ds a a a) a a<|aj.Z 2 a<|aj.qT ?_
 refine K.jt a (fun yR=>?_) (fun yR=>?_)
 exact BF
 refine K.eV 3 a<|w.n (U.hJ a a E) a<|w.dw 2 a ?_
 exact K.gW 4 (show 4≤6∧(1≤4→0≤id∧id≤281474976710655)∧(2≤4→-1≤aE∧aE≤7)∧(3≤4→0≤O∧O≤7)∧(4≤4→0≤am∧am≤127)∧(5≤4→0≤a1∧a1≤1099511627776)∧(6≤4→0≤bM∧bM≤65535) from ⟨by omega,by omega,by omega,by omega,by omega,by omega,by omega⟩) (show 6-4 < 6-3 from E) ⟨a,a,a,(dz (fun aI=>some (Value.b aI)) (qK:(3+1:Int)=(4:Int))),trivial⟩ [1,2] bd a
 show K _ _ [(1,.n b9),(5,iK),(6,.b 6),(7,.b 4)] [ai b9 [id,aE,O,am,a1,bM] 41,row iK 336 5 (([g.nL,g.nM,g.nN,g.nO,g.nP,g.nQ]).map (g.n0.cells b9))]
 refine K.eV 11 a ?_
 have VT:([g.nL,g.nM,g.nN,g.nO,g.nP,g.nQ])[4]?=some g.nP:=rfl
 refine w.A (aV.jy xS n3 a (ax.row 1 a) VT a kf) a<|w.A (aV.lX isAgg336 n3 (ax.row 1 a) VT 0 a E a) a ?_
 refine w.f (aq.iS rA a) a ?_
 rintro _ _ ⟨In,rfl,rfl⟩
 refine w.cq (aq.dC 0 n3 a a a a a a a) ?_
 rintro _ _ rfl
 refine w.dw 2 a<|K.kk Tryz.bE aN<|aj.Z 1 a<|aj.A (aV.br 0 sj a a a) a<|aj.Z 1 a<|aj.A (aV.br 1 ds a a a) a<|aj.Z 1 a<|aj.A (aV.br 0 ds a a a) a<|aj.Z 2 a ?_
 refine aj.qC 18 a (fun XS=>?_) (fun XS=>?_)
 exact DY
 refine aj.Z 1 a<|aj.el (aV.br 0 sj a a a) a a<|aj.Z 1 a<|aj.el (aV.br 1 ds a a a) a a<|aj.Z 1 a<|aj.el (aV.br 0 ds a a a) a a<|aj.Z 2 a<|aj.qT ?_
 refine K.jt a (fun qz=>?_) (fun qz=>?_)
 exact BF
 refine K.eV 3 a<|w.n (U.hJ a a E) a<|w.dw 2 a ?_
 exact K.gW 5 (show 5≤6∧(1≤5→0≤id∧id≤281474976710655)∧(2≤5→-1≤aE∧aE≤7)∧(3≤5→0≤O∧O≤7)∧(4≤5→0≤am∧am≤127)∧(5≤5→0≤a1∧a1≤1099511627776)∧(6≤5→0≤bM∧bM≤65535) from ⟨by omega,by omega,by omega,by omega,by omega,by omega,by omega⟩) (show 6-5 < 6-4 from E) ⟨a,a,a,(dz (fun aI=>some (Value.b aI)) (qK:(4+1:Int)=(5:Int))),trivial⟩ [1,2] bd a
 show K _ _ [(1,.n b9),(5,iK),(6,.b 6),(7,.b 5)] [ai b9 [id,aE,O,am,a1,bM] 41,row iK 336 5 (([g.nL,g.nM,g.nN,g.nO,g.nP,g.nQ]).map (g.n0.cells b9))]
 refine K.eV 11 a ?_
 have CC:([g.nL,g.nM,g.nN,g.nO,g.nP,g.nQ])[5]?=some g.nQ:=rfl
 refine w.A (aV.jy xS n3 a (ax.row 1 a) CC a kf) a<|w.A (aV.lX isAgg336 n3 (ax.row 1 a) CC 0 a E a) a ?_
 refine w.f (aq.iS rA a) a ?_
 rintro _ _ ⟨ayD,rfl,rfl⟩
 refine w.cq (aq.dC 0 n3 a a a a a a a) ?_
 rintro _ _ rfl
 refine w.dw 2 a<|K.kk Tryz.bE aN<|aj.Z 1 a<|aj.A (aV.br 0 sj a a a) a<|aj.Z 1 a<|aj.A (aV.br 1 ds a a a) a<|aj.Z 1 a<|aj.A (aV.br 0 ds a a a) a<|aj.Z 2 a ?_
 refine aj.qC 18 a (fun arF=>?_) (fun arF=>?_)
 exact DY
 refine aj.Z 1 a<|aj.el (aV.br 0 sj a a a) a a<|aj.Z 1 a<|aj.el (aV.br 1 ds a a a) a a<|aj.Z 1 a<|aj.el (aV.br 0 ds a a a) a a<|aj.Z 2 a<|aj.qT ?_
 refine K.jt a (fun arG=>?_) (fun arG=>?_)
 exact BF
 refine K.eV 3 a<|w.n (U.hJ a a E) a<|w.dw 2 a ?_
 exact K.gW 6 (show 6≤6∧(1≤6→0≤id∧id≤281474976710655)∧(2≤6→-1≤aE∧aE≤7)∧(3≤6→0≤O∧O≤7)∧(4≤6→0≤am∧am≤127)∧(5≤6→0≤a1∧a1≤1099511627776)∧(6≤6→0≤bM∧bM≤65535) from ⟨by omega,by omega,by omega,by omega,by omega,by omega,by omega⟩) (show 6-6 < 6-5 from E) ⟨a,a,a,(dz (fun aI=>some (Value.b aI)) (qK:(5+1:Int)=(6:Int))),trivial⟩ [1,2] bd a
 show K _ _ [(1,.n b9),(5,iK),(6,.b 6),(7,.b 6)] [ai b9 [id,aE,O,am,a1,bM] 41,row iK 336 5 (([g.nL,g.nM,g.nN,g.nO,g.nP,g.nQ]).map (g.n0.cells b9))]
 refine K.eV 11 a<|w.A (aV.br 0 ds a a a) a<|w.e1 1 a<|w.A (aV.br 0 ds a a a) a<|w.dw 2 a ?_
 refine K.jt a (fun w9=>?_) (fun w9=>?_)
 exact BF
 refine K.fC 5 a ?_
 exact K.uz a a ⟨(by rw [ee (g.C_.2 E)];rfl),a⟩
def aud(code:Int):M prog 196 #[code] [ai 1 (g.te.map vO) 348] [] (fun m B=>∃ H,m=.tuple #[uH H,.bool (g.hi code 1 10)]∧B=[]):=by
 refine M.aM func196 a ntmps196 a fun an=>K.eV 9 a ?_
 refine w.f (aq.fl call197 (A9 code 1 10) [] a a .nil) a ?_
 rintro _ _ ⟨_,⟨rfl,rfl⟩,rfl⟩
 refine w.dw 2 a ?_
 refine K.cond a (fun J=>?_) (fun J=>?_)
 have aA:(g.hi code 1 10)=false:=c_ J
 refine K.fC 5 a ?_
 exact acn
 have aZ:(g.hi code 1 10)=true:=c_ J
 refine K.eV 4 a<|w.n (U.lG a a (by have au:=g.GB.1 (bO:g.hi code 1 10=true);omega)) a ?_
 obtain ⟨dZ,jj⟩:=c4 (f:=g.te) (b:=(code-1).toNat) RF
 refine w.n (U.oJ runUnderlying348 sizeOf9 a a RF RF) a<|w.A (aV.hh a (eZ.lF 0 a) (v:=0) (off:=(code-1).toNat) E (fr.one isAgg9 (MA jj))) a<|w.dw 3 a ?_
 exact acn
def auc(id aE O code aa aP aR:Int):M prog 91 #[.agg #[id,aE,O,code,aa,aP,aR]] [ai 1 (g.te.map vO) 348] [] (fun m B=>m=.b (if g.mP id aE O code aa aP aR=true then 0 else 1)∧B=[]):=by
 refine M.aM func91 a ntmps91 a fun an=>K.eV 2 a ?_
 refine w.f (aq.pF a a) a ?_
 rintro _ _ ⟨b9,rfl,rfl⟩
 refine w.e1 5 a<|w.A (aV.br 0 ds a a a) a ?_
 refine w.f (aq.fl call196 (aud code) [] a a (.b0 0 a .nil)) a ?_
 rintro _ _ ⟨_,⟨Ki,rfl,rfl⟩,rfl⟩
 refine w.e1 16 a ?_
 refine w.fz 14 a (fun aZ=>?_) (fun aZ=>?_)
 have bT:(g.hi code 1 10)=false:=c_ aZ
 refine w.dw 32 a ?_
 exact xF
 have c7:(g.hi code 1 10)=true:=c_ aZ
 refine w.e1 1 a<|w.el (aV.br 0 ds a a a) a a<|w.e1 1 a<|w.el (aV.br 0 ds a a a) a a<|w.e1 3 a ?_
 refine w.qC 21 a (fun j9=>?_) (fun j9=>?_)
 refine w.dw 25 a ?_
 exact xF
 refine w.e1 1 a<|w.el (aV.br 0 ds a a a) a a ?_
 refine w.oD (aq.fl call197 (A9 id 0 281474976710655) [] a a .nil) a a ?_
 rintro _ _ ⟨_,⟨rfl,rfl⟩,rfl⟩
 refine w.e1 3 a ?_
 refine w.fz 27 a (fun h2=>?_) (fun h2=>?_)
 have hN:(g.hi id 0 281474976710655)=false:=c_ h2
 refine w.dw 19 a ?_
 exact xF
 have lR:(g.hi id 0 281474976710655)=true:=c_ h2
 refine w.e1 1 a<|w.el (aV.br 0 ds a a a) a a<|w.e1 1 a ?_
 refine w.oD (aq.fl call197 (A9 aE 0 7) [] a a .nil) a a ?_
 rintro _ _ ⟨_,⟨rfl,rfl⟩,rfl⟩
 refine w.e1 3 a ?_
 refine w.fz 34 a (fun qn=>?_) (fun qn=>?_)
 have qX:(g.hi aE 0 7)=false:=c_ qn
 refine w.dw 12 a ?_
 exact xF
 have yh:(g.hi aE 0 7)=true:=c_ qn
 refine w.e1 1 a<|w.el (aV.br 0 ds a a a) a a<|w.e1 1 a ?_
 refine w.oD (aq.fl call197 (A9 O (-1) 7) [] a a .nil) a a ?_
 rintro _ _ ⟨_,⟨rfl,rfl⟩,rfl⟩
 refine w.dw 3 a ?_
 refine K.cond a (fun sI=>?_) (fun sI=>?_)
 have tZ:(g.hi O (-1) 7)=false:=c_ sI
 refine K.fC 4 a ?_
 exact xF
 have Cr:(g.hi O (-1) 7)=true:=c_ sI
 refine K.eV 5 a<|w.A (aV.br 0 ds a a a) a ?_
 refine w.f (aq.fl call197 (A9 aa 0 128) [] a a .nil) a ?_
 rintro _ _ ⟨_,⟨rfl,rfl⟩,rfl⟩
 refine w.e1 2 a ?_
 refine w.fz 45 a (fun rL=>?_) (fun rL=>?_)
 have wJ:(g.hi aa 0 128)=false:=c_ rL
 refine w.dw 17 a ?_
 exact xF
 have ajK:(g.hi aa 0 128)=true:=c_ rL
 refine w.e1 1 a<|w.el (aV.br 0 ds a a a) a a ?_
 refine w.oD (aq.fl call197 (A9 aP 0 4294967295) [] a a .nil) a a ?_
 rintro _ _ ⟨_,⟨rfl,rfl⟩,rfl⟩
 refine w.e1 3 a ?_
 refine w.fz 51 a (fun wL=>?_) (fun wL=>?_)
 have U7:(g.hi aP 0 4294967295)=false:=c_ wL
 refine w.dw 11 a ?_
 exact xF
 have ayQ:(g.hi aP 0 4294967295)=true:=c_ wL
 refine w.e1 1 a<|w.el (aV.br 0 ds a a a) a a ?_
 refine w.oD (aq.fl call197 (A9 aR 0 7) [] a a .nil) a a ?_
 rintro _ _ ⟨_,⟨rfl,rfl⟩,rfl⟩
 refine w.dw 3 a ?_
 refine K.cond a (fun ER=>?_) (fun ER=>?_)
 have U8:(g.hi aR 0 7)=false:=c_ ER
 refine K.fC 4 a ?_
 exact xF
 have ayS:(g.hi aR 0 7)=true:=c_ ER
 refine K.fC 5 a ?_
 exact xF
def aq_(j:Int):M prog 282 #[j] [] [] (fun m B=>m=.bool (g.hi j 1 6)∧B=[]):=by
 refine M.aM func282 a ntmps282 a fun an=>K.eV 9 a ?_
 refine w.qC 5 a (fun eC=>?_) (fun eC=>?_)
 exact acp
 exact acp
def aq9(s j:Int):M prog 203 #[uH ([]),s,j] [] [] (fun m B=>∃ H,m=.tuple #[uH H,.b (if g.o9 s j=true then 0 else 1)]∧B=[]):=by
 refine M.aM func203 a ntmps203 a fun an=>K.eV 9 a ?_
 refine w.f (aq.fl call282 (aq_ j) [] a a .nil) a ?_
 rintro _ _ ⟨_,⟨rfl,rfl⟩,rfl⟩
 refine w.e1 2 a ?_
 refine w.fz 13 a (fun J=>?_) (fun J=>?_)
 have aA:(g.hi j 1 6)=false:=c_ J
 refine w.dw 17 a ?_
 exact Sg
 have aZ:(g.hi j 1 6)=true:=c_ J
 refine w.e1 4 a ?_
 refine w.qC 17 a (fun iV=>?_) (fun iV=>?_)
 refine w.dw 13 a ?_
 exact Sg
 refine w.e1 2 a<|w.el (U.dg (U.us a a DU)) a a<|w.el (U.dg (U.Zk a a DU)) a a<|w.dw 3 a ?_
 refine K.jt a (fun iW=>?_) (fun iW=>?_)
 refine K.fC 5 a ?_
 exact Sg
 refine K.eV 4 a ?_
 refine w.f (aq.ahi underlying9 underlying351 underlying5 a) a ?_
 rintro zI _ rfl
 refine w.dw 9 a ?_
 refine K.gw (bo:=Int×Value×List Int) (fun (d,X,gm)=>0≤d∧d≤j∧(gm.length:Int)=d) (fun (d,X,gm)=>[(8,X),(27,.b d)]) (fun (d,X,gm)=>[vG X 5 gm]) (fun (d,X,gm)=>(j-d).toNat) ⟨0,zI,([]:List Int)⟩ [1,2,6,7,26] [0] [] (by have I3:=g.GB.1 (bO:g.hi j 1 6=true);exact ⟨by omega,by omega,rfl⟩) ⟨a,a,trivial⟩ a a ?_
 rintro ⟨d,X,gm⟩ ⟨lU,q4,Wh⟩
 refine K.fC 5 a ?_
 refine K.jt a (fun kM=>?_) (fun kM=>?_)
 refine K.eV 12 a<|w.n (U.lG a a DU) a<|w.e1 1 a<|w.n (U.lG a a DU) a<|w.n (U.us a a DU) a<|w.n (U.Zk a a E) a<|w.n (U.conv wr runUnderlying5 a) a ?_
 refine w.f (aq.fs Us [IntKind.u8.wrap (Bb .i64 s (8*((j-1)-d)))] runUnderlying351 sizeOf5 zeroValue5 a a a aN a a) a ?_
 rintro k' _ rfl
 refine w.f (aq.agx 1 underlying351 (by exact (I7).1) (by exact (I7).2.1) (by exact (I7).2.2.1) (by exact (I7).2.2.2) a a a (ax.row 0 a) oU (by first|omega|(have I3:=g.GB.1 (bO:g.hi j 1 6=true);simp only [eh,e6,fq];omega))) a ?_
 rintro pz _ rfl
 refine w.e1 4 a<|w.n (U.hJ a a DU) a<|w.dw 2 a ?_
 exact K.ms ⟨d+1,pz,gm++([IntKind.u8.wrap (Bb .i64 s (8*((j-1)-d)))])⟩ [1,2,6,7,26] [1] [] ⟨by omega,by omega,by simp only [eh,e6,fq];omega⟩ kR ⟨a,a,trivial⟩ a a
 refine K.eV 4 a ?_
 refine w.f (aq.avO 0 runUnderlying351 runUnderlying5 runUnderlying9 a a) a ?_
 rintro _ _ ⟨⟨P7,rfl⟩,rfl⟩
 refine w.dw 3 a ?_
 exact K.lE [_,_] [] a ⟨a,a,trivial⟩ a ⟨P7,by simp [ed,g.o9, *],rfl⟩
def asH(O bS cb bJ bR b4 bY b_ cy:Int):M prog 202 #[.agg #[O,bS,cb,bJ,bR,b4,bY,b_,cy]] [] [] (fun m B=>m=.agg ([O,bS,cb,bJ,bR,b4,bY,b_,cy].map tj).toArray∧B=[]):=by
 refine M.aM func202 a ntmps202 a fun an=>K.eV 2 a ?_
 refine w.f (aq.pF a a) a ?_
 rintro _ _ ⟨b9,rfl,rfl⟩
 refine w.f (aq.iS zeroValue282 a) a ?_
 rintro _ _ ⟨cS,rfl,rfl⟩
 refine w.e1 4 a<|w.A (aV.nG 1 isAgg45 sizeOf45 a a a) a ?_
 refine w.f (aq.iS zeroValue45 a) a ?_
 rintro _ _ ⟨dE,rfl,rfl⟩
 refine w.cq (aq.dC 0 sizeOf45 a a a a a a a) ?_
 rintro _ _ rfl
 refine w.e1 4 a<|w.A (aV.br 2 ds a a a) a<|w.e1 1 a<|w.A (aV.br 2 ds a a a) a<|w.n (U.oz [(0,.b O),(1,.b bS)] [O,bS,.b 0,.b 0,.b 0,.b 0,.b 0,.b 0,.b 0] Hx zeroValue282 dt a aN) a ?_
 refine w.f (aq.iS zeroValue282 a) a ?_
 rintro _ _ ⟨mG,rfl,rfl⟩
 refine w.cq (aq.dC 0 sizeOf282 a a a a a a a) ?_
 rintro _ _ rfl
 refine w.dw 2 a<|K.ef [(0,false),(1,false),(2,false),(3,false),(4,false),(5,false),(6,false),(7,false),(8,false),(9,false),(10,false),(11,false),(12,false),(13,false),(14,false),(15,true),(16,true)] [1] Tryz.bE aN a<|aL.n a (U.av8 (gw:=2) Hx dt a a a) a<|aL.Z 1 a<|aL.A a (aV.br 0 ds a a a) a<|aL.Z 1 a<|aL.A a (aV.br 0 ds a a a) a<|aL.Z 1 a<|aL.A a (aV.br 0 ds a a a) a<|aL.Z 1 a<|aL.A a (aV.br 0 ds a a a) a<|aL.Z 1 a<|aL.A a (aV.br 0 ds a a a) a<|aL.Z 1 a<|aL.A a (aV.br 0 ds a a a) a<|aL.Z 1 a<|aL.A a (aV.br 0 ds a a a) a ?_
 refine aL.f a (aq.fs bH [cb,bJ,bR,b4,bY,b_,cy] gz dt iF a a a aN a a) a ?_
 rintro lv _ rfl
 refine gr.kV [2] [0] a a ?_
 refine aL.f a (aq.ah6 1 (z:=tj) (f:=[cb,bJ,bR,b4,bY,b_,cy]) [O,bS,cb,bJ,bR,b4,bY,b_,cy] qN DN kf a a a (ax.row 0 a) a a (fun _ _=>a) a a) a ?_
 rintro _ _ ⟨rfl,rfl⟩
 refine gr.iS [2] a aN<|aL.nil<|K.eV 2 a<|w.A (aV.nG 1 isAgg282 sizeOf282 a a a) a ?_
 refine w.cq (aq.dC 3 sizeOf282 a a a a a a a) ?_
 rintro _ _ rfl
 refine w.nil ?_
 exact K.lE [_] [] a ⟨⟨_,_,0,0,_,a,(eZ.ai 3 a),a,(fr.agg [O,bS,cb,bJ,bR,b4,bY,b_,cy] isAgg282 sizeOf282 a a)⟩,trivial⟩ a ⟨a,a⟩
def asF(O bS cb bJ bR b4 bY b_ cy:Int):M prog 98 #[.agg #[O,bS,cb,bJ,bR,b4,bY,b_,cy]] [ai 0 (g.nl.map tj) 282] [] (fun m B=>m=.b (if g.qw O [O,bS,cb,bJ,bR,b4,bY,b_,cy]=true then 0 else 1)∧B=[]):=by
 refine M.aM func98 a ntmps98 a fun an=>K.eV 2 a ?_
 refine w.f (aq.pF a a) a ?_
 rintro _ _ ⟨b9,rfl,rfl⟩
 refine w.e1 6 a<|w.A (aV.br 0 ds a a a) a<|w.dw 2 a ?_
 refine K.jt a (fun fp=>?_) (fun fp=>?_)
 refine K.fC 4 a ?_
 exact R9
 refine K.eV 4 a<|w.A (aV.nG 0 isAgg47 sizeOf47 a a a) a ?_
 refine w.f (aq.fl call202 (asH O bS cb bJ bR b4 bY b_ cy) [] a a .nil) a ?_
 rintro _ _ ⟨_,⟨rfl,rfl⟩,rfl⟩
 refine w.dw 3 a ?_
 refine K.gw (bo:=Nat) (fun d=>d≤9∧((([O,bS,cb,bJ,bR,b4,bY,b_,cy]:List Int).zip g.nl).take d).all (fun n=>g.o9 n.1 n.2)=true) (fun d=>[(12,.b (d:Int))]) (fun d=>[]) (fun d=>9-d) 0 [11] [] [] ⟨by omega,rfl⟩ ⟨(hM E),trivial⟩ a a ?_
 rintro d ⟨R,ci⟩
 refine K.fC 5 a ?_
 refine K.jt a (fun jP=>?_) (fun jP=>?_)
 refine K.eV 6 a ?_
 obtain ⟨dZ,ji⟩:=c4 (f:=([O,bS,cb,bJ,bR,b4,bY,b_,cy]:List Int)) (b:=d) aaO
 refine w.n (U.anC (z:=tj) (f:=([O,bS,cb,bJ,bR,b4,bY,b_,cy]:List Int)) Hx dt ds a a a E E ji) a<|w.e1 7 a ?_
 obtain ⟨eE,qq⟩:=c4 (f:=g.nl) (b:=((d:Int)).toNat) aaO
 refine w.n (U.oJ Hx dt a a E E) a<|w.A (aV.hh a (eZ.lF 0 a) (v:=0) (off:=((d:Int)).toNat) E (fr.one ds (MA qq))) a ?_
 refine w.f (aq.fl call203 (aq9 dZ eE) [] a a .nil) a ?_
 rintro _ _ ⟨_,⟨Za,rfl,rfl⟩,rfl⟩
 refine w.dw 11 a ?_
 refine K.jt a (fun pj=>?_) (fun pj=>?_)
 refine K.fC 5 a ?_
 exact R9
 refine K.eV 3 a<|w.n (U.hJ a a E) a<|w.dw 2 a ?_
 exact K.ms (d+1) [11] [] [] ⟨by omega,g.arh ci bO bO (g.ai1 bO)⟩ E ⟨(hM E),trivial⟩ a a
 refine K.fC 5 a ?_
 exact R9
def Kv(n:Nat)(bD:Int)(y:ab.ht)(O:Int):M prog 198 #[n,O] [ai n (ab.iC bD y) 215] [] (fun m B=>m=.bool (ab.gu O)∧B=[]):=by
 refine M.aM func198 a ntmps198 a fun an=>K.eV 7 a<|w.n (U.pY underlying88 a) a<|w.e1 4 a<|w.el (aV.hh a (eZ.lF 0 a) (v:=0) (off:=0) a (fr.one sk a)) a a<|w.e1 6 a ?_
 refine w.qC 17 a (fun eC=>?_) (fun eC=>?_)
 exact acq
 exact acq
def Zz(bD:Int)(av:ab.MD bD=false):M prog 56 #[bD] [] [] (fun m B=>∃ n,m=.tuple #[.n n,.b 0]∧B=[ai n (ab.iC bD ab.nil) 215]):=by
 have rP:¬(bD < 0∨1099511627776 < bD):=by simpa [ab.MD] using av
 refine M.aM func56 a ntmps56 a fun an=>K.eV 11 a<|w.kK 6 a (p4 E)<|w.dw 4 a<|K.fZ a (p4 E)<|K.eV 4 a<|w.n (U.build [(0,.bool true),(1,.b bD)] [.bool true,.b bD,.bool false,.b 0,.b 0,.b 0,.b 0,.bool false,.b 0,.b 0,.b 0,.b 0,.bool false,.b 0,.b 0,.b 0,.b 0,.bool false,.b 0,.b 0,.b 0,.b 0,.bool false,.b 0,.b 0,.b 0,.b 0,.bool false,.b 0,.b 0,.b 0,.b 0,.bool false,.b 0,.b 0,.b 0,.b 0,.bool false,.b 0,.b 0,.b 0,.b 0] #[(0,1),(1,1),(2,40)] Ep zeroValue215 (ase underlying215) a aN) a ?_
 refine w.f (aq.pF a a) a ?_
 rintro _ _ ⟨b9,rfl,rfl⟩
 refine w.dw 3 a ?_
 exact K.lE [_,_] [0] a ⟨a,a,trivial⟩ a ⟨b9,a,a⟩
def awd(n:Nat)(bD:Int)(y:ab.ht)(O aa aP x:Int):M prog 93 #[n,O,aa,aP,x] [] [ai n (ab.iC bD y) 215] (fun m B=>∃ sA,sA=(ab.fA y O aa aP x).1∧m=.bool (ab.fA y O aa aP x).2∧B=[ai n (ab.iC bD sA) 215]):=by
 refine M.aM func93 a ntmps93 a fun an=>K.eV 9 a ?_
 refine w.f (aq.fl call198 (Kv n bD y O) [] a a (.fy 0 a a .nil)) a ?_
 rintro _ _ ⟨_,⟨rfl,rfl⟩,rfl⟩
 refine w.dw 2 a ?_
 refine K.cond a (fun J=>?_) (fun J=>?_)
 have aA:(ab.gu O)=false:=c_ J
 refine K.fC 4 a ?_
 exact K.l2 [0] a a a ⟨_,a,(by rw [ab.Jj bO];rfl),(by rw [ab.Jj bO])⟩
 have aZ:(ab.gu O)=true:=c_ J
 refine K.fC 2 a ?_
 have rZ:=ab.ub.1 (bO:ab.gu O=true)
 refine K.eV 5 a<|w.n (U.oJ BU u3 a a E E) a<|w.dw 4 a ?_
 refine js ((y (O).toNat).isSome) (fun bT=>?_) (fun bT=>?_)
 obtain ⟨d,ao⟩:∃ d,y O.toNat=some d:=uK.1 bT
 have pS:ab.dU (y O.toNat)=d:=by rw [ao];rfl
 have alp:=dz cR.aP pS
 have Ay:=dz cR.cC pS
 refine K.eV 3 a<|w.A (aV.hh a (eZ.ai 0 a) (v:=0) (off:=2+(O).toNat*5) E (fr.agg [.bool ((y (O).toNat).isSome),.b ((ab.dU (y (O).toNat)).O),.b ((ab.dU (y (O).toNat)).aa),.b ((ab.dU (y (O).toNat)).aP),.b ((ab.dU (y (O).toNat)).cC)] isAgg212 u3 (ab.ZA E a) a)) a<|w.n (U.build [] [.bool false,.b 0,.b 0,.b 0,.b 0] #[(0,1),(1,4)] zD HM (JY BM) a aN) a<|w.n (U.Xs (dq:=#[.bool ((y (O).toNat).isSome),.b ((ab.dU (y (O).toNat)).O),.b ((ab.dU (y (O).toNat)).aa),.b ((ab.dU (y (O).toNat)).aP),.b ((ab.dU (y (O).toNat)).cC)]) (pr:=#[.bool false,.b 0,.b 0,.b 0,.b 0]) eqGuardType212 (.struct BM stoodInHeld212 (.cons a (j_ (m:=.bool ((y (O).toNat).isSome)) sk a) (j_ (m:=.bool false) sk a) (.bool Ml) (.cons a (JQ (f:=[.b ((ab.dU (y (O).toNat)).O),.b ((ab.dU (y (O).toNat)).aa),.b ((ab.dU (y (O).toNat)).aP),.b ((ab.dU (y (O).toNat)).cC)]) (s:=4) nU hV aN) (JQ (f:=[.b 0,.b 0,.b 0,.b 0]) (s:=4) nU hV aN) (.struct uW stoodInHeld175 (.cons a (j_ (m:=.b ((ab.dU (y (O).toNat)).O)) ds a) (j_ (m:=.b 0) ds a) (.int e2) (.cons a (j_ (m:=.b ((ab.dU (y (O).toNat)).aa)) ds a) (j_ (m:=.b 0) ds a) (.int e2) (.cons a (j_ (m:=.b ((ab.dU (y (O).toNat)).aP)) ds a) (j_ (m:=.b 0) ds a) (.int e2) (.cons a (j_ (m:=.b ((ab.dU (y (O).toNat)).cC)) ds a) (j_ (m:=.b 0) ds a) (.int e2) .nil))))) .nil))) a a) a<|w.e1 1 a<|w.od 26 a (show (!((((y (O).toNat).isSome) == false)&&(((decide (((ab.dU (y (O).toNat)).O)=0))&&((decide (((ab.dU (y (O).toNat)).aa)=0))&&((decide (((ab.dU (y (O).toNat)).aP)=0))&&((decide (((ab.dU (y (O).toNat)).cC)=0))&&(true)))))&&(true))))=true from by simp [bT,pS,ab.tt])<|w.e1 4 a<|w.el (aV.hh a (eZ.ai 0 a) (v:=0) (off:=2+(O).toNat*5+3) E (fr.one ds (ab.Bi (b:=3) E a a))) a a<|w.dw 4 a ?_
 refine K.jt a (fun iW=>?_) (fun iW=>?_)
 refine K.fC 4 a ?_
 exact K.l2 [0] a a a ⟨_,a,(by rw [ab.Jg ao E];rfl),(by rw [ab.Jg ao E])⟩
 refine K.eV 7 a<|w.A (aV.hh a (eZ.ai 0 a) (v:=0) (off:=2+(O).toNat*5) E (fr.one sk (ab.Bi (b:=0) E a a))) a<|w.e1 2 a<|w.kK 40 a (show (!((y (O).toNat).isSome))=false from by rw [bT];rfl)<|w.e1 4 a<|w.el (aV.hh a (eZ.ai 0 a) (v:=0) (off:=2+(O).toNat*5+3) E (fr.one ds (ab.Bi (b:=3) E a a))) a a<|w.dw 4 a ?_
 refine K.jt a (fun j9=>?_) (fun j9=>?_)
 refine K.eV 5 a<|w.n (U.build [(0,.b O),(1,.b aa),(2,.b aP)] [O,aa,aP,.b 0] #[(0,1),(1,1),(2,1),(3,1)] zC ns (Dc uW) a aN) a<|w.n (U.build [(0,.bool true),(1,.agg #[O,aa,aP,.b 0])] [.bool true,O,aa,aP,.b 0] #[(0,1),(1,4)] zD HM (JY BM) a aN) a<|w.e1 1 a ?_
 refine w.cq (aq.store 0 (ae:=[.bool true,O,aa,aP,.b 0]) (ab.iC bD (ab.h5 y O (⟨O,aa,aP,0⟩:cR))) a a a u3 a a a (ab.ZB (O:=O) (y:=y) (d:=(⟨O,aa,aP,0⟩:cR)) E E) (ab.Gr (O:=O) (b:=0) (s:=5) E E bd)) ?_
 rintro _ _ rfl
 refine w.e1 5 a ?_
 refine w.f (aq.fl call199 (lb x 1099511627776) [] a a .nil) a ?_
 rintro _ _ ⟨_,⟨rfl,rfl⟩,rfl⟩
 refine w.e1 3 a ?_
 refine w.cq (aq.store 0 (ae:=[.b (ab.cc x 1099511627776)]) (ab.iC bD (ab.h5 (ab.h5 y O (⟨O,aa,aP,0⟩:cR)) O (ab.rB (ab.h5 y O (⟨O,aa,aP,0⟩:cR)) O (ab.cc x 1099511627776)))) a a a dt a a a (ab.Qr (O:=O) (y:=(ab.h5 y O (⟨O,aa,aP,0⟩:cR))) E E (by rw [ab.Gy rZ.1];rfl) (ab.cc x 1099511627776)) (ab.Gr (O:=O) (b:=4) (s:=1) E E bd)) ?_
 rintro _ _ rfl
 refine w.dw 5 a ?_
 exact K.l2 [0] a a a ⟨_,a,(by rw [ab.Jh bO ao E];rfl),(by rw [ab.Jh bO ao E];rw [ab.ZK];first|(simp only [ab.rB,ab.Gy rZ.1,ab.dU];rfl)|(simp only [ab.rB,pS];rfl))⟩
 refine K.eV 5 a ?_
 refine w.f (aq.fl call199 (lb x 1099511627776) [] a a .nil) a ?_
 rintro _ _ ⟨_,⟨rfl,rfl⟩,rfl⟩
 refine w.e1 3 a ?_
 refine w.cq (aq.store 0 (ae:=[.b (ab.cc x 1099511627776)]) (ab.iC bD (ab.h5 y O (ab.rB y O (ab.cc x 1099511627776)))) a a a dt a a a (ab.Qr (O:=O) (y:=y) E E (by rw [ao];rfl) (ab.cc x 1099511627776)) (ab.Gr (O:=O) (b:=4) (s:=1) E E bd)) ?_
 rintro _ _ rfl
 refine w.dw 5 a ?_
 exact K.l2 [0] a a a ⟨_,a,(by rw [ab.Jk bO ao E];rfl),(by rw [ab.Jk bO ao E];first|(simp only [ab.rB,ab.Gy rZ.1,ab.dU];rfl)|(simp only [ab.rB,pS];rfl))⟩
 have ao:y O.toNat=none:=by simpa using bT
 have pS:ab.dU (y O.toNat)=ab.tt:=by rw [ao];rfl
 refine K.eV 3 a<|w.A (aV.hh a (eZ.ai 0 a) (v:=0) (off:=2+(O).toNat*5) E (fr.agg [.bool ((y (O).toNat).isSome),.b ((ab.dU (y (O).toNat)).O),.b ((ab.dU (y (O).toNat)).aa),.b ((ab.dU (y (O).toNat)).aP),.b ((ab.dU (y (O).toNat)).cC)] isAgg212 u3 (ab.ZA E a) a)) a<|w.n (U.build [] [.bool false,.b 0,.b 0,.b 0,.b 0] #[(0,1),(1,4)] zD HM (JY BM) a aN) a<|w.n (U.Xs (dq:=#[.bool ((y (O).toNat).isSome),.b ((ab.dU (y (O).toNat)).O),.b ((ab.dU (y (O).toNat)).aa),.b ((ab.dU (y (O).toNat)).aP),.b ((ab.dU (y (O).toNat)).cC)]) (pr:=#[.bool false,.b 0,.b 0,.b 0,.b 0]) eqGuardType212 (.struct BM stoodInHeld212 (.cons a (j_ (m:=.bool ((y (O).toNat).isSome)) sk a) (j_ (m:=.bool false) sk a) (.bool Ml) (.cons a (JQ (f:=[.b ((ab.dU (y (O).toNat)).O),.b ((ab.dU (y (O).toNat)).aa),.b ((ab.dU (y (O).toNat)).aP),.b ((ab.dU (y (O).toNat)).cC)]) (s:=4) nU hV aN) (JQ (f:=[.b 0,.b 0,.b 0,.b 0]) (s:=4) nU hV aN) (.struct uW stoodInHeld175 (.cons a (j_ (m:=.b ((ab.dU (y (O).toNat)).O)) ds a) (j_ (m:=.b 0) ds a) (.int e2) (.cons a (j_ (m:=.b ((ab.dU (y (O).toNat)).aa)) ds a) (j_ (m:=.b 0) ds a) (.int e2) (.cons a (j_ (m:=.b ((ab.dU (y (O).toNat)).aP)) ds a) (j_ (m:=.b 0) ds a) (.int e2) (.cons a (j_ (m:=.b ((ab.dU (y (O).toNat)).cC)) ds a) (j_ (m:=.b 0) ds a) (.int e2) .nil))))) .nil))) a a) a<|w.e1 1 a<|w.kK 26 a (show (!((((y (O).toNat).isSome) == false)&&(((decide (((ab.dU (y (O).toNat)).O)=0))&&((decide (((ab.dU (y (O).toNat)).aa)=0))&&((decide (((ab.dU (y (O).toNat)).aP)=0))&&((decide (((ab.dU (y (O).toNat)).cC)=0))&&(true)))))&&(true))))=false from by simp [bT,pS,ab.tt])<|w.e1 17 a<|w.A (aV.hh a (eZ.ai 0 a) (v:=0) (off:=2+(O).toNat*5) E (fr.one sk (ab.Bi (b:=0) E a a))) a<|w.e1 2 a<|w.od 40 a (show (!((y (O).toNat).isSome))=true from by rw [bT];rfl)<|w.e1 15 a<|w.n (U.build [(0,.b O),(1,.b aa),(2,.b aP)] [O,aa,aP,.b 0] #[(0,1),(1,1),(2,1),(3,1)] zC ns (Dc uW) a aN) a<|w.n (U.build [(0,.bool true),(1,.agg #[O,aa,aP,.b 0])] [.bool true,O,aa,aP,.b 0] #[(0,1),(1,4)] zD HM (JY BM) a aN) a<|w.e1 1 a ?_
 refine w.cq (aq.store 0 (ae:=[.bool true,O,aa,aP,.b 0]) (ab.iC bD (ab.h5 y O (⟨O,aa,aP,0⟩:cR))) a a a u3 a a a (ab.ZB (O:=O) (y:=y) (d:=(⟨O,aa,aP,0⟩:cR)) E E) (ab.Gr (O:=O) (b:=0) (s:=5) E E bd)) ?_
 rintro _ _ rfl
 refine w.e1 5 a ?_
 refine w.f (aq.fl call199 (lb x 1099511627776) [] a a .nil) a ?_
 rintro _ _ ⟨_,⟨rfl,rfl⟩,rfl⟩
 refine w.e1 3 a ?_
 refine w.cq (aq.store 0 (ae:=[.b (ab.cc x 1099511627776)]) (ab.iC bD (ab.h5 (ab.h5 y O (⟨O,aa,aP,0⟩:cR)) O (ab.rB (ab.h5 y O (⟨O,aa,aP,0⟩:cR)) O (ab.cc x 1099511627776)))) a a a dt a a a (ab.Qr (O:=O) (y:=(ab.h5 y O (⟨O,aa,aP,0⟩:cR))) E E (by rw [ab.Gy rZ.1];rfl) (ab.cc x 1099511627776)) (ab.Gr (O:=O) (b:=4) (s:=1) E E bd)) ?_
 rintro _ _ rfl
 refine w.dw 5 a ?_
 exact K.l2 [0] a a a ⟨_,a,(by rw [ab.Ji bO ao];rfl),(by rw [ab.Ji bO ao];rw [ab.ZK];first|(simp only [ab.rB,ab.Gy rZ.1,ab.dU];rfl)|(simp only [ab.rB,pS];rfl))⟩
def Zy(n:Nat)(bD:Int)(y:ab.ht)(O x:Int):M prog 120 #[n,O,x] [ai n (ab.iC bD y) 215] [] (fun m B=>m=.tuple #[.agg #[.b (((ab.get y bD O x).1).O),.b (((ab.get y bD O x).1).aa),.b (((ab.get y bD O x).1).aP),.b (((ab.get y bD O x).1).cC)],.bool (ab.get y bD O x).2]∧B=[]):=by
 refine M.aM func120 a ntmps120 a fun an=>K.eV 2 a ?_
 refine w.f (aq.iS ns a) a ?_
 rintro _ _ ⟨b9,rfl,rfl⟩
 refine w.dw 4 a ?_
 refine js (ab.gu O) (fun J=>?_) (fun J=>?_)
 have rZ:=ab.ub.1 J
 refine js ((y (O).toNat).isSome) (fun aA=>?_) (fun aA=>?_)
 obtain ⟨d,ao⟩:∃ d,y O.toNat=some d:=uK.1 aA
 have pS:ab.dU (y O.toNat)=d:=by rw [ao];rfl
 have alp:=dz cR.aP pS
 have Ay:=dz cR.cC pS
 refine K.ef [(0,false),(1,false),(2,false),(3,false),(4,false),(5,false),(6,false),(7,false),(8,false),(9,false),(10,false),(11,false),(12,false),(13,false),(14,false),(15,false),(16,false),(17,false),(18,false),(19,false),(20,false),(21,false),(22,false),(23,false),(24,false),(25,false),(26,false),(27,false),(28,false),(29,false),(30,false)] [] Tryz.bE aN a<|aL.Z 2 a<|aL.call (ae:=[n,O]) (fP:=[]) a (by exact call198) a a (Kv n bD y O) (fun _ _ c=>c) (eI.b0 0 a [] a eI.nil) a<|aL.Z 2 a<|aL.eg (u:=12) a a a (lZ J) a (U.dg (U.move a)) a<|aL.eg (u:=12) a a a (lZ J) a (U.dg (U.move a)) a<|aL.eg (u:=12) a a a (lZ J) a (U.dg (U.nilCheck a)) a<|aL.eg (u:=12) a a a (lZ J) a (U.dg (U.fieldAddr (l0:=2) Ep a sizeOf213 a a a)) a<|aL.eg (u:=12) a a a (lZ J) a (U.dg (U.oJ BU u3 a a E E)) a<|aL.eg (u:=12) a a a (lZ J) a (U.dg (U.fieldAddr (l0:=2+(O).toNat*5+0) zD a u4 a a a)) a<|aL.eg (u:=12) a a a (lZ J) a (aV.hh a (eZ.lF 0 a) (v:=0) (off:=2+(O).toNat*5) E (fr.one sk (ab.Bi (b:=0) E a a))) a<|aL.eg (u:=12) a a a (lZ J) a (U.dg (U.not a)) a<|aL.n a (U.w_ a (lZ J) a) a<|aL.Z 1 a<|aL.eg (u:=22) a a a (show (!((y (O).toNat).isSome))=false from by rw [aA];rfl) a (U.dg (U.move a)) a<|aL.eg (u:=22) a a a (show (!((y (O).toNat).isSome))=false from by rw [aA];rfl) a (U.dg (U.move a)) a<|aL.eg (u:=22) a a a (show (!((y (O).toNat).isSome))=false from by rw [aA];rfl) a (U.dg (U.move a)) a<|aL.eg (u:=22) a a a (show (!((y (O).toNat).isSome))=false from by rw [aA];rfl) a (U.dg (U.nilCheck a)) a<|aL.eg (u:=22) a a a (show (!((y (O).toNat).isSome))=false from by rw [aA];rfl) a (U.dg (U.fieldAddr (l0:=2) Ep a sizeOf213 a a a)) a<|aL.eg (u:=22) a a a (show (!((y (O).toNat).isSome))=false from by rw [aA];rfl) a (U.dg (U.oJ BU u3 a a E E)) a ?_
 refine aL.eg (u:=22) a a a (show (!((y (O).toNat).isSome))=false from by rw [aA];rfl) a (U.dg (U.fieldAddr (l0:=2+(O).toNat*5+1) zD a hV a a a)) a<|aL.eg (u:=22) a a a (show (!((y (O).toNat).isSome))=false from by rw [aA];rfl) a (U.dg (U.fieldAddr (l0:=2+(O).toNat*5+1+3) zC a dt a a a)) a<|aL.eg (u:=22) a a a (show (!((y (O).toNat).isSome))=false from by rw [aA];rfl) a (aV.hh a (eZ.lF 0 a) (v:=0) (off:=2+(O).toNat*5+4) E (fr.one ds (ab.Bi (b:=4) E a a))) a<|aL.yd (ae:=[x,.b ((ab.dU (y (O).toNat)).cC)]) (fP:=[]) (u:=22) a a a (show (!((y (O).toNat).isSome))=false from by rw [aA];rfl) a (by exact call187) a a (H3 x ((ab.dU (y (O).toNat)).cC)) (fun _ _ c=>c) eI.nil a<|aL.eg (u:=22) a a a (show (!((y (O).toNat).isSome))=false from by rw [aA];rfl) a (U.dg (U.move a)) a<|aL.eg (u:=22) a a a (show (!((y (O).toNat).isSome))=false from by rw [aA];rfl) a (U.dg (U.nilCheck a)) a<|aL.eg (u:=22) a a a (show (!((y (O).toNat).isSome))=false from by rw [aA];rfl) a (U.dg (U.fieldAddr (l0:=1) Ep a dt a a a)) a<|aL.eg (u:=22) a a a (show (!((y (O).toNat).isSome))=false from by rw [aA];rfl) a (aV.hh a (eZ.lF 0 a) (v:=0) (off:=1) a (fr.one ds a)) a<|aL.eg (u:=22) a a a (show (!((y (O).toNat).isSome))=false from by rw [aA];rfl) a (U.dg (U.gtr a a)) a<|aL.n a (U.w_ a (show (!((y (O).toNat).isSome))=false from by rw [aA];rfl) a) a<|aL.nil ?_
 refine K.jt a (fun jP=>?_) (fun jP=>?_)
 refine K.eV 2 a<|w.n (U.build [] [.b 0,.b 0,.b 0,.b 0] #[(0,1),(1,1),(2,1),(3,1)] zC ns (Dc uW) a aN) a ?_
 refine w.cq (aq.dC 0 hV a a a a a a a) ?_
 rintro _ _ rfl
 refine w.dw 2 a ?_
 exact K.lE [_,_] [] a ⟨⟨_,_,0,0,_,a,(eZ.ai 0 a),a,(fr.agg [.b 0,.b 0,.b 0,.b 0] nU hV a a)⟩,a,trivial⟩ a ⟨(by rw [ab.UX ao (by rw [←Ay];omega)];first|rfl|(simp only [ed,pS];done)),a⟩
 refine K.eV 7 a<|w.n (U.oJ BU u3 a a E E) a<|w.e1 1 a<|w.A (aV.hh a (eZ.lF 0 a) (v:=0) (off:=2+(O).toNat*5+1) E (fr.agg [.b ((ab.dU (y (O).toNat)).O),.b ((ab.dU (y (O).toNat)).aa),.b ((ab.dU (y (O).toNat)).aP),.b ((ab.dU (y (O).toNat)).cC)] nU hV (ab.awe E a) a)) a ?_
 refine w.cq (aq.dC 0 hV a a a a a a a) ?_
 rintro _ _ rfl
 refine w.dw 2 a ?_
 exact K.lE [_,_] [] a ⟨⟨_,_,0,0,_,a,(eZ.ai 0 a),a,(fr.agg [.b ((ab.dU (y (O).toNat)).O),.b ((ab.dU (y (O).toNat)).aa),.b ((ab.dU (y (O).toNat)).aP),.b ((ab.dU (y (O).toNat)).cC)] nU hV a a)⟩,a,trivial⟩ a ⟨(by rw [ab.UZ bO ao (by rw [←Ay];omega)];first|rfl|(simp only [ed,pS];done)),a⟩
 have ao:y O.toNat=none:=by simpa using aA
 have pS:ab.dU (y O.toNat)=ab.tt:=by rw [ao];rfl
 refine K.ef [(0,false),(1,false),(2,false),(3,false),(4,false),(5,false),(6,false),(7,false),(8,false),(9,false),(10,false),(11,false),(12,false),(13,false),(14,false),(15,false),(16,false),(17,false),(18,false),(19,false),(20,false),(21,false),(22,false),(23,false),(24,false),(25,false),(26,false),(27,false),(28,false),(29,false),(30,false)] [] Tryz.bE aN a<|aL.Z 2 a<|aL.call (ae:=[n,O]) (fP:=[]) a (by exact call198) a a (Kv n bD y O) (fun _ _ c=>c) (eI.b0 0 a [] a eI.nil) a<|aL.Z 2 a<|aL.eg (u:=12) a a a (lZ J) a (U.dg (U.move a)) a<|aL.eg (u:=12) a a a (lZ J) a (U.dg (U.move a)) a<|aL.eg (u:=12) a a a (lZ J) a (U.dg (U.nilCheck a)) a<|aL.eg (u:=12) a a a (lZ J) a (U.dg (U.fieldAddr (l0:=2) Ep a sizeOf213 a a a)) a<|aL.eg (u:=12) a a a (lZ J) a (U.dg (U.oJ BU u3 a a E E)) a<|aL.eg (u:=12) a a a (lZ J) a (U.dg (U.fieldAddr (l0:=2+(O).toNat*5+0) zD a u4 a a a)) a<|aL.eg (u:=12) a a a (lZ J) a (aV.hh a (eZ.lF 0 a) (v:=0) (off:=2+(O).toNat*5) E (fr.one sk (ab.Bi (b:=0) E a a))) a<|aL.eg (u:=12) a a a (lZ J) a (U.dg (U.not a)) a<|aL.n a (U.w_ a (lZ J) a) a<|aL.Z 1 a<|aL.iI (u:=22) a a a (lY qI) a a<|aL.iI (u:=22) a a a (lY qI) a a<|aL.iI (u:=22) a a a (lY qI) a a<|aL.iI (u:=22) a a a (lY qI) a a<|aL.iI (u:=22) a a a (lY qI) a a<|aL.iI (u:=22) a a a (lY qI) a a ?_
 refine aL.iI (u:=22) a a a (lY qI) a a<|aL.iI (u:=22) a a a (lY qI) a a<|aL.iI (u:=22) a a a (lY qI) a a<|aL.iI (u:=22) a a a (lY qI) a a<|aL.iI (u:=22) a a a (lY qI) a a<|aL.iI (u:=22) a a a (lY qI) a a<|aL.iI (u:=22) a a a (lY qI) a a<|aL.iI (u:=22) a a a (lY qI) a a<|aL.iI (u:=22) a a a (lY qI) a a<|aL.n a (U.s7 a (show (!((y (O).toNat).isSome))=true from by rw [aA];rfl) a) a<|aL.nil<|K.eV 3 a<|w.n (U.build [] [.b 0,.b 0,.b 0,.b 0] #[(0,1),(1,1),(2,1),(3,1)] zC ns (Dc uW) a aN) a ?_
 refine w.cq (aq.dC 0 hV a a a a a a a) ?_
 rintro _ _ rfl
 refine w.dw 2 a ?_
 exact K.lE [_,_] [] a ⟨⟨_,_,0,0,_,a,(eZ.ai 0 a),a,(fr.agg [.b 0,.b 0,.b 0,.b 0] nU hV a a)⟩,a,trivial⟩ a ⟨(by rw [ab.UW ao];first|rfl|(simp only [ed,pS];done)),a⟩
 refine K.ef [(0,false),(1,false),(2,false),(3,false),(4,false),(5,false),(6,false),(7,false),(8,false),(9,false),(10,false),(11,false),(12,false),(13,false),(14,false),(15,false),(16,false),(17,false),(18,false),(19,false),(20,false),(21,false),(22,false),(23,false),(24,false),(25,false),(26,false),(27,false),(28,false),(29,false),(30,false)] [] Tryz.bE aN a<|aL.Z 2 a<|aL.call (ae:=[n,O]) (fP:=[]) a (by exact call198) a a (Kv n bD y O) (fun _ _ c=>c) (eI.b0 0 a [] a eI.nil) a<|aL.Z 2 a<|aL.iI (u:=12) a a a (lY zl) a a<|aL.iI (u:=12) a a a (lY zl) a a<|aL.iI (u:=12) a a a (lY zl) a a<|aL.iI (u:=12) a a a (lY zl) a a<|aL.iI (u:=12) a a a (lY zl) a a<|aL.iI (u:=12) a a a (lY zl) a a<|aL.iI (u:=12) a a a (lY zl) a a<|aL.iI (u:=12) a a a (lY zl) a a<|aL.n a (U.s7 a (Pu J) a) a<|aL.Z 17 a<|aL.nil<|K.eV 3 a<|w.n (U.build [] [.b 0,.b 0,.b 0,.b 0] #[(0,1),(1,1),(2,1),(3,1)] zC ns (Dc uW) a aN) a ?_
 refine w.cq (aq.dC 0 hV a a a a a a a) ?_
 rintro _ _ rfl
 refine w.dw 2 a ?_
 exact K.lE [_,_] [] a ⟨⟨_,_,0,0,_,a,(eZ.ai 0 a),a,(fr.agg [.b 0,.b 0,.b 0,.b 0] nU hV a a)⟩,a,trivial⟩ a ⟨(by rw [ab.UY bO];first|rfl|(simp only [ed,pS];done)),a⟩
def awb(n:Nat)(bD:Int)(y:ab.ht):M prog 111 #[n] [] [ai n (ab.iC bD y) 215] (fun m B=>m=.tuple #[]∧B=[ai n (ab.iC bD ab.nil) 215]):=by
 refine M.aM func111 a ntmps111 a fun an=>K.eV 3 a<|w.n (U.pY underlying88 a) a<|w.e1 4 a<|w.n (U.oz [] [.bool false,.b 0,.b 0,.b 0,.b 0,.bool false,.b 0,.b 0,.b 0,.b 0,.bool false,.b 0,.b 0,.b 0,.b 0,.bool false,.b 0,.b 0,.b 0,.b 0,.bool false,.b 0,.b 0,.b 0,.b 0,.bool false,.b 0,.b 0,.b 0,.b 0,.bool false,.b 0,.b 0,.b 0,.b 0,.bool false,.b 0,.b 0,.b 0,.b 0] BU zeroValue213 u3 a aN) a<|w.e1 2 a ?_
 refine w.cq (aq.store 0 (ae:=[.bool false,.b 0,.b 0,.b 0,.b 0,.bool false,.b 0,.b 0,.b 0,.b 0,.bool false,.b 0,.b 0,.b 0,.b 0,.bool false,.b 0,.b 0,.b 0,.b 0,.bool false,.b 0,.b 0,.b 0,.b 0,.bool false,.b 0,.b 0,.b 0,.b 0,.bool false,.b 0,.b 0,.b 0,.b 0,.bool false,.b 0,.b 0,.b 0,.b 0]) (ab.iC bD ab.nil) a a a sizeOf213 a a a a a) ?_
 rintro _ _ rfl
 refine w.nil ?_
 exact K.H_ [] [0] a trivial a ⟨a,a⟩
end Go.Proofs.YtohjlkjhpibkmaaGreatDoor
