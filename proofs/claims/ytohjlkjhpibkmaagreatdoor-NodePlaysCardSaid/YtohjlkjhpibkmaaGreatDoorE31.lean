/-
  Rules and plain laws that the walks use.
-/
import Derived.KernelRfl
import Derived.Test.YtohjlkjhpibkmaaGreatDoorE16
import Derived.Test.YtohjlkjhpibkmaaGreatDoorE29
import Derived.Test.YtohjlkjhpibkmaaGreatDoorE28
import Derived.Test.YtohjlkjhpibkmaaGreatDoorE22
import Derived.Test.YtohjlkjhpibkmaaGreatDoorE24
import Derived.Test.YtohjlkjhpibkmaaGreatDoorE13
import Derived.Test.YtohjlkjhpibkmaaGreatDoorE03
import Derived.Test.YtohjlkjhpibkmaaGreatDoorE26
import Derived.Test.YtohjlkjhpibkmaaGreatDoorE27
import Derived.Test.YtohjlkjhpibkmaaGreatDoorE30
import Derived.Test.YtohjlkjhpibkmaaGreatDoorE25
set_option linter.all false
namespace Go.Proofs.YtohjlkjhpibkmaaGreatDoor
open Go Go.LK Go.Proofs.Tryz
set_option maxRecDepth 100000
set_option maxHeartbeats 4000000
def YK(dA:Value)(cW:List cG)(aR dN x a1 bD:Int)(g':Value)(y:ab.ht)(Aj:Value.oneCell' dA=true)(wU:Value.oneCell' g'=true)(ac:ab.oY y)(S:cW.length≤100):M prog 157 #[dA,.agg #[aR,dN,x,a1,bD,g']] [bF dA 4 (cW.map cG.cells),bF g' 4 ((ab.row y).map cR.cells)] [] (fun m B=>∃ X,m=.agg #[.b (g.lk cW aR dN x a1 bD y).1,X]∧B=[row X 241 5 ((g.lk cW aR dN x a1 bD y).2.map gM.cells)]):=auG dA cW aR dN x a1 bD g' y Aj wU ac S
def YG(r:a7)(br:Value)(f:List Int)(S:f.length≤1000)(ad:r.bg=1)(ea:f≠[]):M prog 159 #[r,br] [bF br 1 (f.map bH)] [] (fun m B=>∃ eJ,m=.tuple #[.agg #[r.e.id,r.e.am,r.e.cg,r.e.ck,r.e.eN,r.e.dm,r.e.seq,.b 2,eJ],.b 0,.b 0]∧B=[row eJ 3 1 ((bn.rising f).map bH)]):=by
 rw [ad];exact atk r.e.id r.e.am r.e.cg r.e.ck r.e.eN r.e.dm r.e.seq r.m br f r.ok E ea
def atT(h:g.b3)(ah:g.ct)(q:g.cu)(aJ:List Int)(bu:List a7)(id:Int)(ao:g.nW h q aJ bu):M prog 67 #[ah.s,id] [bF ah.ej 14 (h.k1.map cj.cells),bF ah.dA 4 (h.bb.map cG.cells)] (nk h ah q aJ bu) (fun m B=>∃ (dS dK:Value) (l_:g.ct) (dY:List Int) (jn:List a7),m=.tuple #[.agg #[dS,dK],.b (g.kC h q id).2.2.2]∧g.wa h (g.kC h q id).1 dY aJ jn∧B=nk h (g.ct.as ah l_) (g.kC h q id).1 dY jn++[row dS 51 7 (((g.kC h q id).2.1).map aK.cells),row dK 62 23 (((g.kC h q id).2.2.1).map bk.cells)]):=by
 have:=ao.z
 have ⟨_,_,_,_,_⟩:=ao.L
 have kF:Value.oneCell' (Value.slice none 0 0)=true:=rfl
 have Av:=ao.yC
 refine M.aM func67 a ntmps67 a fun an=>?_
 refine aD 0 ?_
 refine w.one (ax.row 2 a) (fun kG=>?_)
 refine w.one (ax.row 3 a) (fun gN=>?_)
 refine w.one (ax.row 4 a) (fun kH=>?_)
 refine w.one (ax.row 5 a) (fun ga=>?_)
 refine w.one (ax.row 7 a) (fun sW=>?_)
 refine w.fg 51 7 (([]:List aK).map aK.cells) a<|w.fg 62 23 (([]:List bk).map bk.cells) a ?_
 refine w.one (ax.b0 1 a) (fun aAi=>?_)
 refine w.one (ax.row 10 a) (fun sX=>?_)
 refine I 2 ?_
 intro _ cS
 rcases g.Z_ ao.n id with ⟨ft,AI⟩|⟨eb,a8,ft,iy,n_,gj,n',AI⟩|⟨eb,a8,ft,iy,n_,gj,n',AI⟩
 refine P Di ?_
 refine aF ?_
 exact aO (by have dk:g.kC h q id=(q,([]:List aK),([]:List bk),7):=g.aiz ft;rw [dk];exact ⟨_,_,ah,aJ,bu,rfl,⟨ao.n,ao.b1,ot⟩,rfl⟩)
 refine P Di ?_
 refine aF ?_
 exact aO (by have dk:g.kC h q id=(q,([]:List aK),([]:List bk),12):=g.aiA ft n_ n';rw [dk];exact ⟨_,_,ah,aJ,bu,rfl,⟨ao.n,ao.b1,ot⟩,rfl⟩)
 have:(g.lk h.bb q.d.aR a8.e.am q.x a8.e.ck h.bD q.y).2.length≤h.bb.length:=g.r7 _ _
 refine P Di ?_
 refine aD 5 ?_
 intros
 refine K.kD Tryz.bE ?_
 refine ar.gV 29 30 a ?_ ?_
 refine ar.fH (df [(0,29),(30,0),(29,0),(31,0)]) [0,5] aN a ?_
 refine P YK ?_
 intro tY
 intro j1
 refine aD 1 ?_
 refine aL.one a (fun _ c=>by cases c<;>rfl) (ax.row 0 a) (fun va=>?_)
 refine aD 2 ?_
 refine K.fg 3 1 (([]:List Int).map bH) a ?_
 refine I 0 ?_
 refine de (bo:=Nat×Value×Value×List aK×List bk×Int×Value×List Int) (fun (d,EVa,FVa,fm,gG,c0,Vn,c2)=>g.l8 h q.x a8.e (g.lk h.bb q.d.aR a8.e.am q.x a8.e.ck h.bD q.y).2 d [] fm [] gG q.bb c0 c2∧d≤(g.lk h.bb q.d.aR a8.e.am q.x a8.e.ck h.bD q.y).2.length) (fun (d,EVa,FVa,fm,gG,c0,Vn,c2)=>[(11,Vn),(12,.b (d:Int))]) (fun (d,EVa,FVa,fm,gG,c0,Vn,c2)=>[row Vn 3 1 (c2.map bH),ai cS [EVa,FVa] 36,row FVa 62 23 (gG.map bk.cells),row EVa 51 7 (fm.map aK.cells),ai ah.s (g.kt h ah ({ q with bb:=c0 }:g.cu)) 125]) (fun (d,EVa,FVa,fm,gG,c0,Vn,c2)=>(g.lk h.bb q.d.aR a8.e.am q.x a8.e.ck h.bD q.y).2.length-d) ⟨0,Value.slice none 0 0,Value.slice none 0 0,([]:List aK),([]:List bk),q.bb,Value.slice none 0 0,([]:List Int)⟩ [0,1,4,5,6,7,9,10] ⟨g.l8.zero,by omega⟩ ?_
 rintro ⟨d,EVa,FVa,fm,gG,c0,Vn,c2⟩ ⟨g_,Ay⟩
 have:=g_.z
 refine aU ?_ ?_
 refine I 1 ?_
 intros
 obtain ⟨mc,q1⟩:=c4 (f:=((g.lk h.bb q.d.aR a8.e.am q.x a8.e.ck h.bD q.y).2)) (b:=d) E
 refine aU ?_ ?_
 refine P (k0 h ah ({ q with bb:=c0 }:g.cu) cS EVa FVa fm 6 a8.e.id mc.code mc.O 0 tx) ?_
 refine aD 1 ?_
 intro _ s5 BH
 exact da ⟨d+1,BH,FVa,fm++[(⟨6,q.x,h.al,a8.e.id,mc.code,mc.O,0⟩:aK)],gG,c0,Vn,c2⟩ ⟨g_.skip q1 s5,by omega⟩
 refine I 1 ?_
 intro _ s5
 refine w.n (U.hJ a a v8) a ?_
 refine I 1 ?_
 refine K.kk Tryz.bE aN<|aj.Z 3 a<|aj.A (aV.br 5 ds a a a) a<|aj.n (U.hJ a a v8) a<|aj.n (U.us a a v8) a<|aj.Z 3 a<|aj.A (aV.br 5 ds a a a) a<|aj.n (U.J6 a a v8 E) a<|aj.n (U.hJ a a v8) a<|aj.Z 1 a<|aj.qT ?_
 refine P (k0 h ah ({ q with bb:=c0+1 }:g.cu) cS EVa FVa fm 5 a8.e.id 0 mc.O (((h.al+1)*1099511627776)+((c0+1)%1099511627776)) tx) ?_
 refine I 0 ?_
 intro Hk
 refine K.ef (df [(0,17),(17,0),(18,0),(19,1),(20,0)]) [0,2,5,8] Tryz.bE aN a ?_
 refine aD 8 ?_
 refine aL.f a (aq.fs bk.cells [(⟨1,((h.al+1)*1099511627776)+((c0+1)%1099511627776),h.al,mc.O,a8.e.am,mc.a1,mc.bM,0,0,0,0,0,0,0,0,0,0,0,0,0,0,0,0⟩:bk)] xT B8 Ey a a a aN a a) a ?_
 rintro Mq _ rfl
 refine gr.kV [1,3,6,9] [0,1,2,3] a a ?_
 refine aL.f a (aq.gg 5 underlying34 CX a a a a a (ax.row 0 a) bk.one Lo Lo) a ?_
 rintro S2 _ rfl
 refine gr.kV [1,3,6,9] [0,1,2,3] a a<|aL.Z 1 a ?_
 refine aL.one a (fun _ c=>by cases c<;>rfl) (ax.row 5 a) (fun Ac=>?_)
 refine aL.cq a (aq.gy 1 sizeOf34 Ac a a a a) ?_
 rintro _ _ rfl
 refine aD 2 ?_
 refine K.cond a (fun wJ=>?_) (fun wJ=>?_)
 refine I 0 ?_
 refine w.f (aq.fs bH [((h.al+1)*1099511627776)+((c0+1)%1099511627776)] gz dt iF a a a aN a a) a ?_
 rintro axU _ rfl
 refine aD 2 ?_
 intro Mr
 exact da ⟨d+1,Hk,S2,fm++[(⟨5,q.x,h.al,a8.e.id,0,mc.O,((h.al+1)*1099511627776)+((c0+1)%1099511627776)⟩:aK)],gG++([(⟨1,((h.al+1)*1099511627776)+((c0+1)%1099511627776),h.al,mc.O,a8.e.am,mc.a1,mc.bM,0,0,0,0,0,0,0,0,0,0,0,0,0,0,0,0⟩:bk)]),c0+1,Mr,c2++([((h.al+1)*1099511627776)+((c0+1)%1099511627776)])⟩ ⟨g_.Jr q1 s5 wJ,by omega⟩
 refine aD 1 ?_
 exact da ⟨d+1,Hk,S2,fm++[(⟨5,q.x,h.al,a8.e.id,0,mc.O,((h.al+1)*1099511627776)+((c0+1)%1099511627776)⟩:aK)],gG++([(⟨1,((h.al+1)*1099511627776)+((c0+1)%1099511627776),h.al,mc.O,a8.e.am,mc.a1,mc.bM,0,0,0,0,0,0,0,0,0,0,0,0,0,0,0,0⟩:bk)]),c0+1,Vn,c2⟩ ⟨g_.call q1 s5 wJ,by omega⟩
 refine aU ?_ ?_
 refine aD 1 ?_
 intros
 refine P (re h ah ({ q with bb:=c0 }:g.cu) cS EVa FVa fm gG bu eb a8 ((g.lk h.bb q.d.aR a8.e.am q.x a8.e.ck h.bD q.y).1) tx tx ga sW jW LB iy) ?_
 rintro _ _ ⟨Sv,F27,S5,rfl,rfl⟩
 refine P (ku h ({ ah with fj:=S5 }:g.ct) ({ q with bb:=c0,n:=(q.n.set eb g.cp.zero),j:=(bj.drop q.j a8.e.id) }:g.cu) cS Sv F27 (fm++[g.ek q.x h.al (a8.e,((g.lk h.bb q.d.aR a8.e.am q.x a8.e.ck h.bD q.y).1))]) (gG++[g.eB h.al q.d (a8.e,((g.lk h.bb q.d.aR a8.e.am q.x a8.e.ck h.bD q.y).1))]) (bu.set eb a7.zero) aJ DL kH ga kG gN jW qJ ao.b1 v7) ?_
 rintro _ _ ⟨axG,aeT,afk,afN,aoh,rfl,ak',amw,amZ,hjl38,hel39,rfl⟩
 refine I 1 ?_
 refine w.one (ax.row 2 a) (fun aj2=>?_)
 refine w.one (ax.row 7 a) (fun NS=>?_)
 refine aF ?_
 exact aO (by have dk:g.kC h q id=(g.fx h ({ q with bb:=c0,n:=(q.n.set eb g.cp.zero),j:=(bj.drop q.j a8.e.id) }:g.cu) (fm++[g.ek q.x h.al (a8.e,((g.lk h.bb q.d.aR a8.e.am q.x a8.e.ck h.bD q.y).1))]) (gG++[g.eB h.al q.d (a8.e,((g.lk h.bb q.d.aR a8.e.am q.x a8.e.ck h.bD q.y).1))])):=abA;rw [dk];exact ⟨_,_,({ ah with eD:=afk,e5:=aeT,fj:=S5 }:g.ct),afN,aoh,rfl,⟨ak',amw,(by have fe:=amZ;have au:=ao.A;first|omega|(dsimp only at *;omega))⟩,kx⟩)
 refine aU ?_ ?_
 refine aD 0 ?_
 intros
 refine P (re h ah ({ q with bb:=c0 }:g.cu) cS EVa FVa fm gG bu eb a8 1 tx tx ga sW jW LB iy) ?_
 rintro _ _ ⟨D4,F45,HH,rfl,rfl⟩
 refine P (ku h ({ ah with fj:=HH }:g.ct) ({ q with bb:=c0,n:=(q.n.set eb g.cp.zero),j:=(bj.drop q.j a8.e.id) }:g.cu) cS D4 F45 (fm++[g.ek q.x h.al (a8.e,1)]) (gG++[g.eB h.al q.d (a8.e,1)]) (bu.set eb a7.zero) aJ DL kH ga kG gN jW qJ ao.b1 v7) ?_
 rintro _ _ ⟨Mb,aeY,afp,afR,aol,rfl,ale,amB,am4,hjl56,hel57,rfl⟩
 refine I 1 ?_
 refine w.one (ax.row 2 a) (fun aj7=>?_)
 refine w.one (ax.row 7 a) (fun az2=>?_)
 refine aF ?_
 exact aO (by have dk:g.kC h q id=(g.fx h ({ q with bb:=c0,n:=(q.n.set eb g.cp.zero),j:=(bj.drop q.j a8.e.id) }:g.cu) (fm++[g.ek q.x h.al (a8.e,1)]) (gG++[g.eB h.al q.d (a8.e,1)])):=abH;rw [dk];exact ⟨_,_,({ ah with eD:=afp,e5:=aeY,fj:=HH }:g.ct),afR,aol,rfl,⟨ale,amB,(by have fe:=am4;have au:=ao.A;first|omega|(dsimp only at *;omega))⟩,kx⟩)
 refine I 0 ?_
 intros
 have q5:c2≠[]:=(fun au=>by subst au;simp at *)
 refine P YG ?_
 refine I 1 ?_
 intro HJ _
 refine w.one (ax.row 1 a) (fun IH=>?_)
 refine I 1 ?_
 refine K.fD 7 Tryz.bE aN ?_
 refine aD 3 ?_
 refine w.cq (aq.jS 15 (k:=eb) (off:=0) (ae:=[a8.e.id,a8.e.am,a8.e.cg,a8.e.ck,a8.e.eN,a8.e.dm,a8.e.seq,.b 2,HJ]) (r:=a8) (⟨a8.e,2,HJ,(bn.rising c2),IH⟩:a7) a a a a E iy a j3 a a (by simp only [k8,ri,jV,IH]<;>rfl) a a) ?_
 rintro _ _ rfl
 refine w.dw 2 a<|K.hv (a'.trans (a'.bz [1,16,0,2,3,4,5,6,7,8,9,10,11,12,13,14,15,17,18] a) (a'.lx (yE iy (⟨a8.e,2,HJ,(bn.rising c2),IH⟩:a7)))) ?_
 refine I 0 ?_
 refine de (bo:=Nat×Value×List cI) (fun (gO,i_,ih)=>gO≤c2.length∧ih=(c2.take gO).foldl (fun f F=>bj.add f F id) q.j∧ih.length≤q.j.length+gO) (fun (gO,i_,ih)=>[(18,.b (gO:Int))]) (fun (gO,i_,ih)=>[ai ah.s (g.kt h ({ ah with fj:=i_ }:g.ct) ({ q with bb:=c0 }:g.cu)) 125,row i_ 320 2 (ih.map cI.cells)]) (fun (gO,i_,ih)=>c2.length-gO) ⟨0,ah.fj,q.j⟩ [0,1,4,5,6,11] ⟨by omega,rfl,by omega⟩ ?_
 rintro ⟨gO,i_,ih⟩ ⟨sQ,hfo,hwl1⟩
 refine aU ?_ ?_
 refine I 0 ?_
 intros
 obtain ⟨Um,VU⟩:=c4 (f:=c2) (b:=gO) E
 rcases aau (bj.dX ih Um).isSome with kX|kX
 refine K.ef (df [(0,9),(9,0),(10,5)]) [0,4] Tryz.bE aN a ?_
 refine P Yn ?_
 refine aD 1 ?_
 refine w.one (ax.row 1 a) (fun aj8=>?_)
 refine w.cq (aq.gy 0 xZ aj8 a a a a) ?_
 rintro _ _ rfl
 refine aD 1 ?_
 exact da ⟨gO+1,i_,ih⟩ ⟨by omega,(by rw [hx,VU,p6,←hfo];exact (bj.Tm kX).symm),Li⟩
 refine K.ef (df [(0,9),(9,0),(10,5)]) [0,4] Tryz.bE aN a ?_
 refine P Yo ?_
 intro aez
 refine aD 1 ?_
 refine w.one (ax.row 0 a) (fun Vy=>?_)
 refine w.cq (aq.gy 1 xZ Vy a a a a) ?_
 rintro _ _ rfl
 refine aD 1 ?_
 exact da ⟨gO+1,aez,bj.hO ih Um id⟩ ⟨by omega,(by rw [hx,VU,p6,←hfo];exact (bj.To kX).symm),Li⟩
 refine aD 0 ?_
 intros
 refine P (ku h ({ ah with fj:=i_ }:g.ct) ({ q with bb:=c0,n:=(q.n.set eb ⟨a8.cL.e,2,bn.rising c2⟩),j:=ih }:g.cu) cS EVa FVa fm gG (bu.set eb (⟨a8.e,2,HJ,(bn.rising c2),IH⟩:a7)) aJ DL kH ga kG gN jW qJ ao.b1 v7) ?_
 rintro _ _ ⟨axN,ae2,aft,afV,aop,rfl,ali,amF,am8,hjl81,hel82,rfl⟩
 refine I 1 ?_
 refine w.one (ax.row 2 a) (fun az_=>?_)
 refine w.one (ax.row 10 a) (fun az'=>?_)
 refine aF ?_
 exact aO (by have dk:g.kC h q id=(g.fx h ({ q with bb:=c0,n:=(q.n.set eb ⟨a8.cL.e,2,bn.rising c2⟩),j:=ih }:g.cu) fm gG):=abB;rw [dk];exact ⟨_,_,({ ah with eD:=aft,e5:=ae2,fj:=i_ }:g.ct),afV,aop,rfl,⟨ali,amF,(by have fe:=am8;have au:=ao.A;first|omega|(dsimp only at *;omega))⟩,kx⟩)
 refine ar.fH (df [(0,29),(29,0),(30,0),(31,0)]) [0,5] aN a ?_
 refine P YK ?_
 intro ax1
 refine aD 3 ?_
 intro ayN
 refine aL.one a (fun _ c=>by cases c<;>rfl) (ax.row 1 a) (fun aAa=>?_)
 refine aD 2 ?_
 refine K.fg 3 1 (([]:List Int).map bH) a ?_
 refine I 0 ?_
 refine de (bo:=Nat×Value×Value×List aK×List bk×Int×Value×List Int) (fun (d,EVa,FVa,fm,gG,c0,Vn,c2)=>g.l8 h q.x a8.e (g.lk h.bb q.d.aR a8.e.am q.x a8.e.ck h.bD q.y).2 d [] fm [] gG q.bb c0 c2∧d≤(g.lk h.bb q.d.aR a8.e.am q.x a8.e.ck h.bD q.y).2.length) (fun (d,EVa,FVa,fm,gG,c0,Vn,c2)=>[(11,Vn),(12,.b (d:Int))]) (fun (d,EVa,FVa,fm,gG,c0,Vn,c2)=>[row Vn 3 1 (c2.map bH),ai cS [EVa,FVa] 36,row FVa 62 23 (gG.map bk.cells),row EVa 51 7 (fm.map aK.cells),ai ah.s (g.kt h ah ({ q with bb:=c0 }:g.cu)) 125]) (fun (d,EVa,FVa,fm,gG,c0,Vn,c2)=>(g.lk h.bb q.d.aR a8.e.am q.x a8.e.ck h.bD q.y).2.length-d) ⟨0,Value.slice none 0 0,Value.slice none 0 0,([]:List aK),([]:List bk),q.bb,Value.slice none 0 0,([]:List Int)⟩ [0,1,4,5,6,7,9,10] ⟨g.l8.zero,by omega⟩ ?_
 rintro ⟨d,EVa,FVa,fm,gG,c0,Vn,c2⟩ ⟨g_,Ay⟩
 have:=g_.z
 refine aU ?_ ?_
 refine I 1 ?_
 intros
 obtain ⟨pI,Od⟩:=c4 (f:=((g.lk h.bb q.d.aR a8.e.am q.x a8.e.ck h.bD q.y).2)) (b:=d) E
 refine aU ?_ ?_
 refine P (k0 h ah ({ q with bb:=c0 }:g.cu) cS EVa FVa fm 6 a8.e.id pI.code pI.O 0 tx) ?_
 refine aD 1 ?_
 intro _ JP Me
 exact da ⟨d+1,Me,FVa,fm++[(⟨6,q.x,h.al,a8.e.id,pI.code,pI.O,0⟩:aK)],gG,c0,Vn,c2⟩ ⟨g_.skip Od JP,by omega⟩
 refine I 1 ?_
 intro _ JP
 refine w.n (U.hJ a a v8) a ?_
 refine I 1 ?_
 refine K.kk Tryz.bE aN<|aj.Z 3 a<|aj.A (aV.br 5 ds a a a) a<|aj.n (U.hJ a a v8) a<|aj.n (U.us a a v8) a<|aj.Z 3 a<|aj.A (aV.br 5 ds a a a) a<|aj.n (U.J6 a a v8 E) a<|aj.n (U.hJ a a v8) a<|aj.Z 1 a<|aj.qT ?_
 refine P (k0 h ah ({ q with bb:=c0+1 }:g.cu) cS EVa FVa fm 5 a8.e.id 0 pI.O (((h.al+1)*1099511627776)+((c0+1)%1099511627776)) tx) ?_
 refine I 0 ?_
 intro SC
 refine K.ef (df [(0,17),(17,0),(18,0),(19,1),(20,0)]) [0,2,5,8] Tryz.bE aN a ?_
 refine aD 8 ?_
 refine aL.f a (aq.fs bk.cells [(⟨1,((h.al+1)*1099511627776)+((c0+1)%1099511627776),h.al,pI.O,a8.e.am,pI.a1,pI.bM,0,0,0,0,0,0,0,0,0,0,0,0,0,0,0,0⟩:bk)] xT B8 Ey a a a aN a a) a ?_
 rintro ax2 _ rfl
 refine gr.kV [1,3,6,9] [0,1,2,3] a a ?_
 refine aL.f a (aq.gg 5 underlying34 CX a a a a a (ax.row 0 a) bk.one Lo Lo) a ?_
 rintro Td _ rfl
 refine gr.kV [1,3,6,9] [0,1,2,3] a a<|aL.Z 1 a ?_
 refine aL.one a (fun _ c=>by cases c<;>rfl) (ax.row 5 a) (fun Vm=>?_)
 refine aL.cq a (aq.gy 1 sizeOf34 Vm a a a a) ?_
 rintro _ _ rfl
 refine aD 2 ?_
 refine K.cond a (fun Nw=>?_) (fun Nw=>?_)
 refine I 0 ?_
 refine w.f (aq.fs bH [((h.al+1)*1099511627776)+((c0+1)%1099511627776)] gz dt iF a a a aN a a) a ?_
 rintro axT _ rfl
 refine aD 2 ?_
 intro BX
 exact da ⟨d+1,SC,Td,fm++[(⟨5,q.x,h.al,a8.e.id,0,pI.O,((h.al+1)*1099511627776)+((c0+1)%1099511627776)⟩:aK)],gG++([(⟨1,((h.al+1)*1099511627776)+((c0+1)%1099511627776),h.al,pI.O,a8.e.am,pI.a1,pI.bM,0,0,0,0,0,0,0,0,0,0,0,0,0,0,0,0⟩:bk)]),c0+1,BX,c2++([((h.al+1)*1099511627776)+((c0+1)%1099511627776)])⟩ ⟨g_.Jr Od JP Nw,by omega⟩
 refine aD 1 ?_
 exact da ⟨d+1,SC,Td,fm++[(⟨5,q.x,h.al,a8.e.id,0,pI.O,((h.al+1)*1099511627776)+((c0+1)%1099511627776)⟩:aK)],gG++([(⟨1,((h.al+1)*1099511627776)+((c0+1)%1099511627776),h.al,pI.O,a8.e.am,pI.a1,pI.bM,0,0,0,0,0,0,0,0,0,0,0,0,0,0,0,0⟩:bk)]),c0+1,Vn,c2⟩ ⟨g_.call Od JP Nw,by omega⟩
 refine aU ?_ ?_
 refine aD 1 ?_
 intros
 refine P (re h ah ({ q with bb:=c0 }:g.cu) cS EVa FVa fm gG bu eb a8 ((g.lk h.bb q.d.aR a8.e.am q.x a8.e.ck h.bD q.y).1) tx tx ga sW jW LB iy) ?_
 rintro _ _ ⟨adX,F106,SU,rfl,rfl⟩
 refine P (ku h ({ ah with fj:=SU }:g.ct) ({ q with bb:=c0,n:=(q.n.set eb g.cp.zero),j:=(bj.drop q.j a8.e.id) }:g.cu) cS adX F106 (fm++[g.ek q.x h.al (a8.e,((g.lk h.bb q.d.aR a8.e.am q.x a8.e.ck h.bD q.y).1))]) (gG++[g.eB h.al q.d (a8.e,((g.lk h.bb q.d.aR a8.e.am q.x a8.e.ck h.bD q.y).1))]) (bu.set eb a7.zero) aJ DL kH ga kG gN jW qJ ao.b1 v7) ?_
 rintro _ _ ⟨axr,aeE,ae6,afx,an3,rfl,akV,amg,amJ,hjl117,hel118,rfl⟩
 refine I 1 ?_
 refine w.one (ax.row 2 a) (fun NN=>?_)
 refine w.one (ax.row 7 a) (fun azn=>?_)
 refine aF ?_
 exact aO (by have dk:g.kC h q id=(g.fx h ({ q with bb:=c0,n:=(q.n.set eb g.cp.zero),j:=(bj.drop q.j a8.e.id) }:g.cu) (fm++[g.ek q.x h.al (a8.e,((g.lk h.bb q.d.aR a8.e.am q.x a8.e.ck h.bD q.y).1))]) (gG++[g.eB h.al q.d (a8.e,((g.lk h.bb q.d.aR a8.e.am q.x a8.e.ck h.bD q.y).1))])):=abA;rw [dk];exact ⟨_,_,({ ah with eD:=ae6,e5:=aeE,fj:=SU }:g.ct),afx,an3,rfl,⟨akV,amg,(by have fe:=amJ;have au:=ao.A;first|omega|(dsimp only at *;omega))⟩,kx⟩)
 refine aU ?_ ?_
 refine aD 0 ?_
 intros
 refine P (re h ah ({ q with bb:=c0 }:g.cu) cS EVa FVa fm gG bu eb a8 1 tx tx ga sW jW LB iy) ?_
 rintro _ _ ⟨ad0,F124,SW,rfl,rfl⟩
 refine P (ku h ({ ah with fj:=SW }:g.ct) ({ q with bb:=c0,n:=(q.n.set eb g.cp.zero),j:=(bj.drop q.j a8.e.id) }:g.cu) cS ad0 F124 (fm++[g.ek q.x h.al (a8.e,1)]) (gG++[g.eB h.al q.d (a8.e,1)]) (bu.set eb a7.zero) aJ DL kH ga kG gN jW qJ ao.b1 v7) ?_
 rintro _ _ ⟨axu,aeG,ae9,afA,an5,rfl,akX,ami,amL,hjl135,hel136,rfl⟩
 refine I 1 ?_
 refine w.one (ax.row 2 a) (fun Ab=>?_)
 refine w.one (ax.row 7 a) (fun azr=>?_)
 refine aF ?_
 exact aO (by have dk:g.kC h q id=(g.fx h ({ q with bb:=c0,n:=(q.n.set eb g.cp.zero),j:=(bj.drop q.j a8.e.id) }:g.cu) (fm++[g.ek q.x h.al (a8.e,1)]) (gG++[g.eB h.al q.d (a8.e,1)])):=abH;rw [dk];exact ⟨_,_,({ ah with eD:=ae9,e5:=aeG,fj:=SW }:g.ct),afA,an5,rfl,⟨akX,ami,(by have fe:=amL;have au:=ao.A;first|omega|(dsimp only at *;omega))⟩,kx⟩)
 refine I 0 ?_
 intros
 have q5:c2≠[]:=(fun au=>by subst au;simp at *)
 refine P YG ?_
 refine I 1 ?_
 intro HD _
 refine w.one (ax.row 1 a) (fun IC=>?_)
 refine I 1 ?_
 refine K.fD 7 Tryz.bE aN ?_
 refine aD 3 ?_
 refine w.cq (aq.jS 15 (k:=eb) (off:=0) (ae:=[a8.e.id,a8.e.am,a8.e.cg,a8.e.ck,a8.e.eN,a8.e.dm,a8.e.seq,.b 2,HD]) (r:=a8) (⟨a8.e,2,HD,(bn.rising c2),IC⟩:a7) a a a a E iy a j3 a a (by simp only [k8,ri,jV,IC]<;>rfl) a a) ?_
 rintro _ _ rfl
 refine w.dw 2 a<|K.hv (a'.trans (a'.bz [1,16,0,2,3,4,5,6,7,8,9,10,11,12,13,14,15,17,18] a) (a'.lx (yE iy (⟨a8.e,2,HD,(bn.rising c2),IC⟩:a7)))) ?_
 refine I 0 ?_
 refine de (bo:=Nat×Value×List cI) (fun (gO,i_,ih)=>gO≤c2.length∧ih=(c2.take gO).foldl (fun f F=>bj.add f F id) q.j∧ih.length≤q.j.length+gO) (fun (gO,i_,ih)=>[(18,.b (gO:Int))]) (fun (gO,i_,ih)=>[ai ah.s (g.kt h ({ ah with fj:=i_ }:g.ct) ({ q with bb:=c0 }:g.cu)) 125,row i_ 320 2 (ih.map cI.cells)]) (fun (gO,i_,ih)=>c2.length-gO) ⟨0,ah.fj,q.j⟩ [0,1,4,5,6,11] ⟨by omega,rfl,by omega⟩ ?_
 rintro ⟨gO,i_,ih⟩ ⟨sQ,hfo,hwl1⟩
 refine aU ?_ ?_
 refine I 0 ?_
 intros
 obtain ⟨Uk,VS⟩:=c4 (f:=c2) (b:=gO) E
 rcases aau (bj.dX ih Uk).isSome with kX|kX
 refine K.ef (df [(0,9),(9,0),(10,5)]) [0,4] Tryz.bE aN a ?_
 refine P Yn ?_
 refine aD 1 ?_
 refine w.one (ax.row 1 a) (fun Vr=>?_)
 refine w.cq (aq.gy 0 xZ Vr a a a a) ?_
 rintro _ _ rfl
 refine aD 1 ?_
 exact da ⟨gO+1,i_,ih⟩ ⟨by omega,(by rw [hx,VS,p6,←hfo];exact (bj.Tm kX).symm),Li⟩
 refine K.ef (df [(0,9),(9,0),(10,5)]) [0,4] Tryz.bE aN a ?_
 refine P Yo ?_
 intro aep
 refine aD 1 ?_
 refine w.one (ax.row 0 a) (fun ajY=>?_)
 refine w.cq (aq.gy 1 xZ ajY a a a a) ?_
 rintro _ _ rfl
 refine aD 1 ?_
 exact da ⟨gO+1,aep,bj.hO ih Uk id⟩ ⟨by omega,(by rw [hx,VS,p6,←hfo];exact (bj.To kX).symm),Li⟩
 refine aD 0 ?_
 intros
 refine P (ku h ({ ah with fj:=i_ }:g.ct) ({ q with bb:=c0,n:=(q.n.set eb ⟨a8.cL.e,2,bn.rising c2⟩),j:=ih }:g.cu) cS EVa FVa fm gG (bu.set eb (⟨a8.e,2,HD,(bn.rising c2),IC⟩:a7)) aJ DL kH ga kG gN jW qJ ao.b1 v7) ?_
 rintro _ _ ⟨axx,aeJ,afa,afD,an9,rfl,ak1,aml,amO,hjl160,hel161,rfl⟩
 refine I 1 ?_
 refine w.one (ax.row 2 a) (fun azv=>?_)
 refine w.one (ax.row 10 a) (fun azw=>?_)
 refine aF ?_
 exact aO (by have dk:g.kC h q id=(g.fx h ({ q with bb:=c0,n:=(q.n.set eb ⟨a8.cL.e,2,bn.rising c2⟩),j:=ih }:g.cu) fm gG):=abB;rw [dk];exact ⟨_,_,({ ah with eD:=afa,e5:=aeJ,fj:=i_ }:g.ct),afD,an9,rfl,⟨ak1,aml,(by have fe:=amO;have au:=ao.A;first|omega|(dsimp only at *;omega))⟩,kx⟩)
def ta(s l p:Int):M prog 228 #[s,l,p] [] [] (fun m B=>m=.bool (aQ.cg s l p)∧B=[]):=by
 refine M.aM func228 a ntmps228 a fun an=>?_
 exact ac_
def ate(bK bV b8 bG ch b' cf er es d' eO eP eQ:Int)(dA:Value)(ay:List cG)(al dl:Int)(bB:-1000000≤dl)(G:dl≤1000000)(S:ay.length≤100000):M prog 229 #[.agg #[bK,bV,b8,bG,ch,b',cf,er,es,d',eO,eP,eQ,dA],al,dl] [bF dA 4 (ay.map cG.cells)] [] (fun m B=>m=.bool (aQ.nu ay bG al dl)∧B=[]):=by
 refine M.aM func229 a ntmps229 a fun an=>?_
 refine I 0 ?_
 refine w.one (ax.b0 0 a) (fun n8=>?_)
 refine I 1 ?_
 intros
 refine de (bo:=Nat) (fun d=>d≤ay.length∧aQ.kZ ay bG al dl d=true) (fun d=>[(7,.b (d:Int))]) (fun d=>[]) (fun d=>ay.length-d) 0 [1,2,3] ⟨by omega,rfl⟩ ?_
 rintro d ⟨R,j8⟩
 refine aU ?_ ?_
 refine I 1 ?_
 intros
 obtain ⟨cQ,h3⟩:=c4 (f:=ay) (b:=d) E
 refine P ta ?_
 refine I 0 ?_
 intros
 refine w.fz 28 a (fun gi=>?_) (fun gi=>?_)
 have dL:(aQ.cg cQ.O 0 (dl-1))=false:=c_ gi
 exact Hb
 have h2:(aQ.cg cQ.O 0 (dl-1))=true:=c_ gi
 refine aU (fun pj=>?_) (fun pj=>?_)
 exact Hb
 refine P ta ?_
 refine I 0 ?_
 refine w.fz 42 a (fun nc=>?_) (fun nc=>?_)
 have qn:(aQ.cg cQ.aR 0 bG)=false:=c_ nc
 exact Hb
 have qX:(aQ.cg cQ.aR 0 bG)=true:=c_ nc
 refine P ta ?_
 refine I 0 ?_
 refine w.fz 48 a (fun oE=>?_) (fun oE=>?_)
 have sI:(aQ.cg cQ.jr 1 8)=false:=c_ oE
 exact Hb
 have tZ:(aQ.cg cQ.jr 1 8)=true:=c_ oE
 refine P ta ?_
 refine I 0 ?_
 refine K.cond a (fun wI=>?_) (fun wI=>?_)
 have rL:(aQ.cg cQ.dr 1 65535)=false:=c_ wI
 exact Hb
 have wJ:(aQ.cg cQ.dr 1 65535)=true:=c_ wI
 refine I 0 ?_
 refine de (bo:=Nat) (fun k=>k≤d∧((ay.take k).any fun y=>decide (y.O=cQ.O))=false) (fun k=>[(9,.b (k:Int))]) (fun k=>[]) (fun k=>d-k) 0 [1,2,3,7,8] ⟨by omega,rfl⟩ ?_
 rintro k ⟨ag,dy⟩
 refine aU ?_ ?_
 refine I 0 ?_
 intros
 refine K.kk Tryz.bE aN ?_
 refine aD 1 ?_
 obtain ⟨lP,CC⟩:=c4 (f:=ay) (b:=k) E
 refine aU ?_ ?_
 refine aF ?_
 intros
 exact aO ⟨(by rw [aQ.MN h3 (.inl (aQ.agv CC E bO))];rfl),a⟩
 refine I 1 ?_
 intros
 exact da (k+1) ⟨by omega,aQ.agw dy CC bO⟩
 refine I 1 ?_
 intros
 exact da (d+1) ⟨by omega,aQ.XD j8 h3 (by rw [show d=k from by omega];exact dy) aaZ⟩
 refine aF ?_
 intros
 exact aO ⟨(by rw [aQ.ahu j8 E R];rfl),a⟩
def atd(bK bV b8 bG ch b' cf er es d' eO eP eQ:Int)(dA:Value)(ay:List cG)(al dl lA:Int)(S:ay.length≤100000):M prog 137 #[.agg #[bK,bV,b8,bG,ch,b',cf,er,es,d',eO,eP,eQ,dA],al,dl,lA] [bF dA 4 (ay.map cG.cells)] [] (fun m B=>m=.b (aQ.e7 [bK,bV,b8,bG,ch,b',cf,er,es,d',eO,eP,eQ] ay al dl lA)∧B=[]):=by
 refine M.aM func137 a ntmps137 a fun an=>?_
 refine I 0 ?_
 refine w.one (ax.b0 0 a) (fun n8=>?_)
 refine P ta ?_
 refine I 0 ?_
 intros
 refine w.fz 12 a (fun aZ=>?_) (fun aZ=>?_)
 have bT:(aQ.cg dl 1 8)=false:=c_ aZ
 exact iN
 have c7:(aQ.cg dl 1 8)=true:=c_ aZ
 refine I 0 ?_
 refine w.el (U.dg (U.lG a a sh)) a a ?_
 refine P ta ?_
 refine I 0 ?_
 refine w.fz 19 a (fun dL=>?_) (fun dL=>?_)
 have h2:(aQ.cg al 0 (dl-1))=false:=c_ dL
 exact iN
 have hN:(aQ.cg al 0 (dl-1))=true:=c_ dL
 refine P ta ?_
 refine I 0 ?_
 refine w.fz 25 a (fun nc=>?_) (fun nc=>?_)
 have qn:(aQ.cg bK 1 16)=false:=c_ nc
 exact iN
 have qX:(aQ.cg bK 1 16)=true:=c_ nc
 refine P ta ?_
 refine I 0 ?_
 refine w.fz 31 a (fun oE=>?_) (fun oE=>?_)
 have sI:(aQ.cg bV 1 64)=false:=c_ oE
 exact iN
 have tZ:(aQ.cg bV 1 64)=true:=c_ oE
 refine P ta ?_
 refine I 0 ?_
 refine w.fz 37 a (fun wI=>?_) (fun wI=>?_)
 have rL:(aQ.cg b8 1 64)=false:=c_ wI
 exact iN
 have wJ:(aQ.cg b8 1 64)=true:=c_ wI
 refine P ta ?_
 refine I 0 ?_
 refine w.fz 43 a (fun wK=>?_) (fun wK=>?_)
 have wL:(aQ.cg bG 0 7)=false:=c_ wK
 exact iN
 have U7:(aQ.cg bG 0 7)=true:=c_ wK
 refine P ta ?_
 refine I 0 ?_
 refine w.fz 49 a (fun rM=>?_) (fun rM=>?_)
 have ER:(aQ.cg ch 0 256)=false:=c_ rM
 exact iN
 have U8:(aQ.cg ch 0 256)=true:=c_ rM
 refine P ta ?_
 refine I 0 ?_
 refine K.cond a (fun Nz=>?_) (fun Nz=>?_)
 have Iu:(aQ.cg b' 0 1099511627776)=false:=c_ Nz
 exact iN
 have ES:(aQ.cg b' 0 1099511627776)=true:=c_ Nz
 refine P PR ?_
 refine aU (fun JN=>?_) (fun JN=>?_)
 refine aF ?_
 exact aO ⟨(by rw [aQ.ahH bO];rfl),a⟩
 refine P (ate bK bV b8 bG ch b' cf er es d' eO eP eQ dA ay al dl sh sh S) ?_
 refine I 0 ?_
 refine K.cond a (fun Iv=>?_) (fun Iv=>?_)
 have ajL:(aQ.nu ay bG al dl)=false:=c_ Iv
 exact iN
 have Iw:(aQ.nu ay bG al dl)=true:=c_ Iv
 refine aF ?_
 exact aO ⟨(by rw [aQ.TX bO bO (by simp only [*,jV]) bO];exact dz (Value.int .i64) (Eq.symm (ke.1 (bO:¬h7.e7 [cf,er,es,d',eO,eP,eQ] lA≠0)))),a⟩
def ati(br:Value)(f:List Int)(s:Int)(S:f.length≤100000):M prog 230 #[br,s] [bF br 1 (f.map bH)] [] (fun m B=>m=.bool (decide (s∈f))∧B=[]):=by
 refine M.aM func230 a ntmps230 a fun an=>?_
 refine I 0 ?_
 refine de (bo:=Nat) (fun d=>d≤f.length∧s∉f.take d) (fun d=>[(5,.b (d:Int))]) (fun d=>[]) (fun d=>f.length-d) 0 [0,1] ⟨by omega,by simp⟩ ?_
 rintro d ⟨R,dy⟩
 refine aU ?_ ?_
 refine I 0 ?_
 intros
 obtain ⟨bP,dJ⟩:=c4 (f:=f) (b:=d) E
 refine aU ?_ ?_
 refine aF ?_
 intros
 exact aO ⟨(by simp only [ed];rw [c9 (bn.NZ dJ bO)]),a⟩
 refine I 1 ?_
 intros
 exact da (d+1) ⟨by omega,bn.N0 dy dJ bO⟩
 exact abZ
def atf(br:Value)(f:List cj)(l p:Int)(S:f.length≤1000)(aS:∀ H∈f,H.cW.length≤1000):M prog 301 #[br,l,p] [bF br 14 (f.map cj.cells),hZ (f.map cj.bF)] [] (fun m B=>m=.bool (dV.bb (f_ f) l p)∧B=[]):=by
 have rR:=z1 (f:=f)
 refine M.aM func301 a ntmps301 a fun an=>?_
 refine aU (fun eC=>?_) (fun eC=>?_)
 refine aF ?_
 exact LZ
 refine aU (fun fp=>?_) (fun fp=>?_)
 refine aF ?_
 exact LZ
 refine aU (fun e_=>?_) (fun e_=>?_)
 refine aF ?_
 exact LZ
 refine aU ?_ ?_
 refine aF ?_
 intros
 exact LZ
 intros
 refine K.fC 3 a ?_
 obtain ⟨dZ,ji⟩:=c4 (f:=f) (b:=(l).toNat) E
 refine K.hZ 1 a (ar:=bF dZ.dA 4 (dZ.cW.map cG.cells)) (bx.2 ⟨dZ,eF ji,a⟩) ?_
 have IK:=aS _ (eF ji)
 have pP:(dZ.cW.map cG.O).length=dZ.cW.length:=fc _
 refine I 0 ?_
 refine de (bo:=Nat) (fun d=>d≤dZ.cW.length∧p∉(dZ.cW.map cG.O).take d) (fun d=>[(7,.b (d:Int))]) (fun d=>[]) (fun d=>dZ.cW.length-d) 0 [0,1,2] ⟨by omega,by simp⟩ ?_
 rintro d ⟨R,dy⟩
 refine aU ?_ ?_
 refine aD 2 ?_
 intros
 obtain ⟨na,qq⟩:=c4 (f:=dZ.cW) (b:=d) E
 refine aU ?_ ?_
 refine aF ?_
 intros
 exact aO ⟨(by rw [dV.TU (L:=(f_ f)) (l:=l) (p:=p) E (Nq ji),c9 (bn.NZ (Ky qq) bO)];rfl),a⟩
 refine I 1 ?_
 intros
 exact da (d+1) ⟨by omega,bn.N0 dy (Ky qq) bO⟩
 refine aF ?_
 intros
 exact aO ⟨(by rw [dV.TU (L:=(f_ f)) (l:=l) (p:=p) E (Nq ji),p4 (bn.VE dy E)];rfl),a⟩
def ath(br:Value)(f:List cj)(z:Nat)(S:f.length≤1000)(aS:∀ H∈f,H.cW.length≤1000):M prog 231 #[br,.b (z:Int)] [bF br 14 (f.map cj.cells),hZ (f.map cj.bF)] [] (fun m B=>B=[row m 3 1 ((dV.vz (f_ f) z).map bH)]):=by
 have rR:=z1 (f:=f)
 refine M.aM func231 a ntmps231 a fun an=>?_
 refine aD 1 ?_
 refine w.f (aq.yH (aI:=(false:Bool)) (z:=Ib) (t:=f.length) (H:=1) (bytes:=1) runUnderlying363 (fun j=>run_typeInfo j (by exact (WE).1)) (by exact (WE).2.2.2) u4 zeroValue4 a a E E bd a a bd a) a ?_
 rintro kh _ rfl
 refine I 0 ?_
 refine de (bo:=Nat×List Bool) (fun (Z,t)=>Z≤f.length∧dV.rv (f_ f) z t Z) (fun (Z,t)=>[(6,.b (Z:Int))]) (fun (Z,t)=>[row kh 4 1 (t.map Ib)]) (fun (Z,t)=>f.length-Z) ⟨0,List.replicate f.length (false:Bool)⟩ [0,1,4,5] ⟨by omega,by rw [←rR];exact dV.rv.zero⟩ ?_
 rintro ⟨Z,t⟩ ⟨cs,bB⟩
 refine aU ?_ ?_
 refine I 0 ?_
 intros
 refine de (bo:=Nat×List Bool) (fun (u,e9)=>u≤f.length∧dV.py (f_ f) z t e9 u 0) (fun (u,e9)=>[(7,.b (u:Int))]) (fun (u,e9)=>[row kh 4 1 (e9.map Ib)]) (fun (u,e9)=>f.length-u) ⟨0,t⟩ [0,1,4,5,6] ⟨by omega,bB.begin⟩ ?_
 rintro ⟨u,e9⟩ ⟨bA,bh⟩
 refine aU ?_ ?_
 refine I 0 ?_
 intros
 refine de (bo:=Nat×List Bool) (fun (d,fi)=>d≤f.length∧dV.py (f_ f) z t fi u d) (fun (d,fi)=>[(8,.b (d:Int))]) (fun (d,fi)=>[row kh 4 1 (fi.map Ib)]) (fun (d,fi)=>f.length-d) ⟨0,e9⟩ [0,1,4,5,6,7] ⟨by omega,bh⟩ ?_
 rintro ⟨d,fi⟩ ⟨R,ac⟩
 refine aU ?_ ?_
 refine I 0 ?_
 intros
 obtain ⟨dZ,ji⟩:=c4 (f:=fi) (b:=d) LL
 refine P atf ?_
 refine I 0 ?_
 refine w.fz 36 a (fun gi=>?_) (fun gi=>?_)
 refine aU (fun kM=>?_) (fun kM=>?_)
 refine I 0 ?_
 obtain ⟨gU,sM⟩:=c4 (f:=fi) (b:=u) LL
 refine aD 1 ?_
 refine w.cq (aq.jS 0 (k:=u) (off:=0) (ae:=[.bool true]) (r:=[.bool gU]) true a a a a E sM a u4 a a a a a) ?_
 rintro _ _ rfl
 refine I 1 ?_
 exact da ⟨d+1,fi.set u true⟩ ⟨by omega,ac.mark (by rw [←dV.MO];exact gi) (.inl E)⟩
 refine aD 2 ?_
 refine K.cond a (fun lR=>?_) (fun lR=>?_)
 refine I 0 ?_
 obtain ⟨mc,q1⟩:=c4 (f:=fi) (b:=u) LL
 refine aD 1 ?_
 refine w.cq (aq.jS 0 (k:=u) (off:=0) (ae:=[.bool true]) (r:=[.bool mc]) true a a a a E q1 a u4 a a a a a) ?_
 rintro _ _ rfl
 refine I 1 ?_
 exact da ⟨d+1,fi.set u true⟩ ⟨by omega,ac.mark (by rw [←dV.MO];exact gi) (.inr (by show fi[d]?=some true;rw [ji];exact dz some bO))⟩
 refine I 1 ?_
 exact da ⟨d+1,fi⟩ ⟨by omega,ac.skip (fun au=>by rcases au.2 with dx|dx;(· omega);(· have fe:fi[d]?=some true:=dx;rw [ji] at fe;simp_all))⟩
 refine I 1 ?_
 exact da ⟨d+1,fi⟩ ⟨by omega,ac.skip (fun au=>by have dx:=au.1;rw [←dV.MO,gi] at dx;cases dx)⟩
 refine I 1 ?_
 intros
 exact da ⟨u+1,fi⟩ ⟨by omega,dV.py.row ((show d=(f_ f).length from by omega) ▸ ac)⟩
 refine I 1 ?_
 intros
 exact da ⟨Z+1,e9⟩ ⟨by omega,dV.py.PG ((show u=(f_ f).length from by omega) ▸ bh) bB⟩
 intros
 refine K.fC 11 a<|K.lC 3 1 ?_
 refine de (bo:=Nat×Value×List Int) (fun (d,X,v)=>d≤f.length∧v=dV.w3 t d∧v.length≤d) (fun (d,X,v)=>[(9,X),(10,.b (d:Int))]) (fun (d,X,v)=>[row X 3 1 (v.map bH)]) (fun (d,X,v)=>f.length-d) ⟨0,Value.slice none 0 0,[]⟩ [0,4,5] ⟨by omega,rfl,by simp⟩ ?_
 rintro ⟨d,X,v⟩ ⟨R,ci,gI⟩
 refine aU ?_ ?_
 refine I 0 ?_
 intros
 obtain ⟨Cj,CB⟩:=c4 (f:=t) (b:=d) LL
 refine aD 2 ?_
 refine K.cond a (fun oE=>?_) (fun oE=>?_)
 refine I 0 ?_
 refine w.f (aq.fs bH [(d:Int)] gz dt iF a a a aN a a) a ?_
 rintro mD _ rfl
 refine aD 2 ?_
 intro Mp
 exact da ⟨d+1,Mp,v++([(d:Int)])⟩ ⟨by omega,aaF,hq⟩
 refine I 1 ?_
 exact da ⟨d+1,X,v⟩ ⟨by omega,aaF,hq⟩
 refine aF ?_
 intros
 exact aO (dz (fun (aI:List Int)=>([row X 3 1 (aI.map bH)]:List aB)) (show v=dV.vz (f_ f) z from (by rw [ci,show d=(f_ f).length from by omega];exact dV.rv.row ((show Z=(f_ f).length from by omega) ▸ bB))))
def atg(br:Value)(f:List cj)(S:f.length≤1000)(aS:∀ H∈f,H.cW.length≤1000):M prog 138 #[br] [bF br 14 (f.map cj.cells),hZ (f.map cj.bF)] [] (fun m B=>m=.b (dV.loops (f_ f))∧B=[]):=by
 have rR:=z1 (f:=f)
 refine M.aM func138 a ntmps138 a fun an=>?_
 refine I 0 ?_
 refine de (bo:=Nat) (fun d=>d≤f.length∧∀ k,k < d→¬dV.lr (dV.r (f_ f)) k k) (fun d=>[(3,.b (d:Int))]) (fun d=>[]) (fun d=>f.length-d) 0 [0] ⟨by omega,fun k ag=>absurd ag (ts _)⟩ ?_
 rintro d ⟨R,dy⟩
 refine aU ?_ ?_
 refine I 0 ?_
 intros
 refine w.f (aq.fl call231 (ath br f d S aS) [] a a (.b0 0 a (.b0 1 a .nil))) a ?_
 rintro iK _ ⟨_,rfl,rfl⟩
 refine P (ati iK (dV.vz (f_ f) d) (d:Int) (by first|omega|(have au:=dV.atE (L:=(f_ f)) (b:=d);omega))) ?_
 refine aU ?_ ?_
 refine aF ?_
 intros
 exact aO ⟨(by rw [dV.apn (dV.Yr.1 bO)];rfl),a⟩
 refine I 1 ?_
 intros
 exact da (d+1) ⟨by omega,fun k ag dk=>by rcases mR k d with e4|e4;(· exact dy k e4 dk);(· have dx:k=d:=E;subst dx;exact absurd (dV.Yr.2 dk) bO)⟩
 refine aF ?_
 intros
 exact aO ⟨(by rw [dV.apm (fun b ac=>dy b E)];rfl),a⟩
def as6(p i:Int):M prog 135 #[p,i] [] [] (fun m B=>m=.bool (dd.pi p i)∧B=[]):=by
 refine M.aM func135 a ntmps135 a fun an=>?_
 exact ade
def as7(i Z:Int):M prog 136 #[i,Z] [] [] (fun m B=>m=.bool (dd.kZ i Z)∧B=[]):=by
 refine M.aM func136 a ntmps136 a fun an=>?_
 exact ade
def Yk(p i Z:Int)(s:Nat)(ej:Value)(f:List cj)(S:f.length≤1000)(aS:∀ H∈f,H.cW.length≤1000):M prog 57 #[.agg #[p,i,Z,.int .u64 (Nat.cast s:Int),ej]] [bF ej 14 (f.map cj.cells),hZ (f.map cj.bF)] [] (fun m B=>m=.b (dd.nv p i Z f)∧B=[]):=by
 refine M.aM func57 a ntmps57 a fun an=>?_
 refine I 0 ?_
 refine w.one (ax.b0 0 a) (fun n8=>?_)
 refine P as6 ?_
 refine I 0 ?_
 intros
 refine w.fz 10 a (fun aZ=>?_) (fun aZ=>?_)
 have bT:(dd.pi p i)=false:=c_ aZ
 refine aF ?_
 exact RL
 have c7:(dd.pi p i)=true:=c_ aZ
 refine P as7 ?_
 refine I 0 ?_
 refine w.fz 18 a (fun dL=>?_) (fun dL=>?_)
 have h2:(dd.kZ i Z)=false:=c_ dL
 refine aF ?_
 exact acN
 have hN:(dd.kZ i Z)=true:=c_ dL
 refine aU (fun qy=>?_) (fun qy=>?_)
 refine aF ?_
 exact abT
 refine aU ?_ ?_
 refine aF ?_
 intros
 exact abT
 refine I 0 ?_
 intros
 refine de (bo:=Nat) (fun d=>d≤f.length∧dd.rE p i f d=true) (fun d=>[(3,.b (d:Int))]) (fun d=>[]) (fun d=>f.length-d) 0 [1] ⟨by omega,dd.TZ⟩ ?_
 rintro d ⟨R,bf⟩
 refine aU ?_ ?_
 intros
 refine K.fC 4 a ?_
 obtain ⟨gA,pa⟩:=c4 (f:=f) (b:=d) E
 refine K.hZ 1 a (ar:=bF gA.dA 4 (gA.cW.map cG.cells)) (bx.2 ⟨gA,eF pa,a⟩)<|K.fD 14 Tryz.bE aN<|aj.Z 1 a<|aj.A (aV.br 0 isAgg23 a a a) a<|aj.Z 1 a<|aj.A (aV.jy st tN a (ax.b0 0 a) pa a kf) a<|aj.A (aV.lX isAgg56 tN (ax.b0 0 a) pa 0 a E a) a<|aj.Z 2 a<|aj.A (aV.br 0 isAgg23 a a a) a<|aj.A (aV.jN st a (ax.b0 0 a)) a<|aj.Z 1 a<|aj.A (aV.br 0 ds a a a) a<|aj.Z 1 a<|aj.A (aV.br 0 ds a a a) a<|aj.n (U.us a a (by first|omega|(have au:=dd.yK (bO:dd.pi p i=true);omega))) a<|aj.Cl ?_
 refine P (atd gA.bK gA.bV gA.b8 gA.bG gA.ch gA.b' gA.cf gA.er gA.es gA.d' gA.eO gA.eP gA.eQ gA.dA gA.cW (d:Int) (f.length:Int) (p*i) (iZ (aS _ (eF bO)) bd)) ?_
 refine aU ?_ ?_
 refine aF ?_
 intros
 exact aO ⟨(by rw [dd.MS pa bO];rfl),a⟩
 refine I 1 ?_
 intros
 exact da (d+1) ⟨by omega,dd.TY bf pa (ke.1 bO)⟩
 refine P atg ?_
 exact adU
end Go.Proofs.YtohjlkjhpibkmaaGreatDoor
namespace Go.LK
open Go
def a'.lC{C:List aB}(u H:Nat):a' C (row (.slice Option.none 0 0) u H [] :: C):=fun an bL j W=>W.add (Frame.refl j _) ⟨GU j 0 u H,by simp⟩ zm
def aox{Y:Nat}{f:List a7}{n:a7→Bool}:∀ j,(c1 (f.map (a7.row Y))).holds j→(hZ ((f.filter n).map a7.bF)).holds j∧∀ d∈(hZ ((f.filter n).map a7.bF)).dT,d∈(c1 (f.map (a7.row Y))).dT:=fun j bU=>by
  have c:=O0 (Y:=Y) (f:=f) j bU
  refine ⟨fun ar bI=>?_,fun d R=>?_⟩
  · obtain ⟨k,ag,rfl⟩:=bx.1 bI
    exact (O0 (Y:=Y) (f:=f) j bU).1 _ (bx.2 ⟨k,(pt.1 ag).1,rfl⟩)
  · obtain ⟨ar,bI,Ax⟩:=jO.1 R
    obtain ⟨k,ag,rfl⟩:=bx.1 bI
    exact c.2 d (jO.2 ⟨_,bx.2 ⟨k,(pt.1 ag).1,rfl⟩,Ax⟩)
end Go.LK
namespace Go.LK.g
open Go Go.LK
section
variable {h:b3} {N iG:aO} {q zJ:cu} {aJ:List Int} {bu:List a7} {l:ou} {a_:List aK} {aH:List bk}
def XE{x al:Int}:∀ (A:List T) (o:List cp) (d:dM),(lj x al A o d).2.2.2.length≤A.length
  | [],_,_=>oQ _
  | e :: A,o,d=>by
    rw [lj]
    split
    · simp
    · have:=XE (x:=x) (al:=al) A (o.set ‹Nat› ⟨e,1,[]⟩) (rg d (ab.left x e.dm))
      simpa using this
def vu{s t:Nat}(G:a_.length+q.A.length≤s)(J:aH.length≤t):(fx h q a_ aH).2.1.length≤s∧(fx h q a_ aH).2.2.1.length≤t:=by
  have:=XE (x:=q.x) (al:=h.al) q.A q.n q.d
  exact ⟨by show (a_++_).length≤s;rw [eh];omega,J⟩
def TR{x:Int}{e:T}:∀ (C:List gM) (dC:Int×List aK×List bk×List Int),(rD h x e C dC).2.1.length≤dC.2.1.length+C.length∧(rD h x e C dC).2.2.1.length≤dC.2.2.1.length+C.length
  | [],dC=>⟨oQ _,oQ _⟩
  | H :: C,dC=>by
    have c:=TR (x:=x) (e:=e) C (tR h x e dC H)
    have G:(tR h x e dC H).2.1.length≤dC.2.1.length+1∧(tR h x e dC H).2.2.1.length≤dC.2.2.1.length+1:=by
      unfold tR;split<;>simp
    show (rD h x e C (tR h x e dC H)).2.1.length≤_∧(rD h x e C (tR h x e dC H)).2.2.1.length≤_
    simp only [e6];omega
def aix(ao:nW h q aJ bu)(l:ou):(kB h q l).2.1.length≤1000∧(kB h q l).2.2.1.length≤1000:=by
  have a6:=ao.A;have ad:=ao.jq;have bU:=ao.bf.gk;have aS:=ao.bf.aS
  have me:∀ n:T→Bool,(q.A.filter n).length≤q.A.length:=fun n=>kv _ _
  have f2:∀ n:cp→Bool,(q.n.filter n).length≤q.n.length:=fun n=>kv _ _
  unfold kB
  split
  · unfold je
    split
    · simp
    · split
      · simp
      · split
        · exact vu v1 oU
        · unfold C4;dsimp only
          split
          · exact vu (by dsimp only;rw [Be];simp;omega) oU
          · split
            · refine vu ?_ oU
              dsimp only;rw [Be]
              have h2:∀ n:T→Bool,(((⟨l.s_,l.s',l.s9,l.s8,l.mx,q.x,q.aY+1⟩:T) :: q.A).filter n).length≤q.A.length+1:=fun n=>kv _ _
              exact iZ (Nat.add_le_add_left (h2 _) _) (by simp only [e6,fq];omega)
            · simp
  · split
    · unfold kC
      split
      · simp
      · split
        · simp
        · have S:=fun e=>TR (h:=h) (x:=q.x) (e:=e) (l1 h q.d q.y e q.x).2 (q.bb,[],[],[])
          have c7:∀ e,(l1 h q.d q.y e q.x).2.length≤6:=fun e=>iZ (r7 _ _) aS
          split
          · exact vu (by unfold pW;simp;omega) (by unfold pW;simp)
          · have gi:=S (q.n.getD ‹Nat› cp.zero).e;have dL:=c7 (q.n.getD ‹Nat› cp.zero).e
            simp only [fq,uM] at gi
            split
            · refine vu ?_ ?_
              · unfold pW m_;simp only [eh,e6,fq];omega
              · unfold pW m_;simp only [eh,e6,fq];omega
            · refine vu ?_ ?_
              · unfold m_;dsimp only;omega
              · unfold m_;omega
    · split
      · unfold n5
        split
        · simp
        · split
          · simp
          · exact vu (by unfold pW;simp;omega) (by unfold pW;simp)
      · split
        · have d_:(n9 h q l.td l.tb l.og l.tc l.hv).length≤2:=by unfold n9;split<;>simp
          unfold iX
          split
          · simp
          · split
            · dsimp only;simp;omega
            · split
              · simp
              · split
                · refine vu ?_ ?_
                  · unfold pW;simp only [eh,e6,fq];omega
                  · unfold pW;simp
                · dsimp only;simp;omega
        · split
          · unfold rd
            split
            · simp
            · split<;>simp
          · split
            · unfold pp;dsimp only
              have ca:∀ s,(AU { q with x:=s }).length≤q.n.length:=fun s=>by unfold AU;rw [fc];exact f2 _
              split
              · refine vu ?_ ?_
                · simp only [eh,fc,e6,fq]
                  have G:=ca (later q.x 1)
                  have J:=me fun e=>decide (ew e (later q.x 1)=0);have aA:=me fun e=>!decide (ew e (later q.x 1)=0)
                  omega
                · simp only [eh,fc]
                  have G:=ca (later q.x 1)
                  have aA:=me fun e=>!decide (ew e (later q.x 1)=0)
                  omega
              · refine vu ?_ ?_
                · simp only [eh,fc]
                  have G:=ca (later q.x 1)
                  have J:=me fun e=>decide (ew e (later q.x 1)=0);have aA:=me fun e=>!decide (ew e (later q.x 1)=0)
                  omega
                · simp only [eh,fc]
                  have G:=ca (later q.x 1)
                  have aA:=me fun e=>!decide (ew e (later q.x 1)=0)
                  omega
            · split
              · unfold uC
                have:=f2 fun Z=>decide (Z.bg≠0)
                simp only [eh,fc,e6,fq];omega
              · simp
def M8{s:Nat}(bf:h.bC)(aW:N.bC h)(S:N.hb s)(aw:s≤200)(ad:bu.map a7.cL=(cK h N).n)(bU:rz (cK h N).d aJ)(ix:aJ.length≤64*s):nW h (cK h N) aJ bu:=by
  have G:=aW.A.S;have J:=bf.mm;have aA:=S.t;have aZ:=S.i;have bT:=S.j;have c7:=aW.gQ;have gi:=aW.bz.q5;have dL:=aW.bz.lV
  refine ⟨bf,aW.d,ad,bU,by omega,by show (eL N.A.u).length≤64;rw [Be];omega,by show N.cd.length≤60000;omega,aW.nH,aW.hn,aW.i',by show N.bb≤1000000;omega,aW.fG,by show N.aY≤1000000;omega,FQ uG (C9 aW.e8),?_,aW.m',ar1 bf aW.b.S,fun Z cs=>?_,fun n vl=>?_,fun b k Z H ac ag cs W aC=>JX aW.b ac ag cs W aC⟩
  · show ((iY N.bz.b7 N.bz.z N.bz.s).length:Int)≤h.fW
    unfold iY;rw [fc,DB];omega
  · obtain ⟨b,ac⟩:=kw.1 cs
    obtain ⟨_,v,bw,rfl⟩:=yT ac
    cases v with
    | none=>exact GG _
    | some A =>
      obtain ⟨L,F⟩:=A
      obtain ⟨k,ue,_,_,Aw⟩:=un aW.b bw
      rw [Aw];exact (aW.b.k.ff _ _ ue).2.2.c2
  · show (hd (fJ h.b1 N.af N.cX) n.ff).isSome=true
    rw [Tv aW.b];exact aW.b.j n vl
def HR{p i Gm:Int}{r:cj}(bf:h.bC)(c:BJ h N p i Gm r):cK h N=⟨0,0,0,0,w8 h.ap h.bm r.cf r.er r.es r.d' r.eO r.eP r.eQ,[],[],List.replicate h.b1.toNat cp.zero,[],ab.nil⟩:=by
  unfold cK
  rw [c.x,c.bS,c.aY,c.cW,c.d,c.bz,c.A,c.af,c.cX,c.cd,c.y,Qi]
  have ad:fJ h.b1 (List.replicate 16 none) []=List.replicate h.b1.toNat cp.zero:=by
    exact aca
  rw [ad]
def awk:(pp h q).2.2.2=0:=by unfold pp;dsimp only;split<;>rfl
def atK{o:List cp}(ad:bu.map a7.cL=o):(bu.filter fun k=>decide (k.bg≠0)).map a7.cL=o.filter fun Z=>decide (Z.bg≠0):=by rw [←ad,List.filter_map];rfl
def WV(ao:nW h q aJ bu){f:List a7}(c:f.map a7.cL=q.n.filter fun Z=>decide (Z.bg≠0)):f.length≤1000∧∀ k∈f,k.cr.length≤1000:=by
  have G:=dz List.length c
  have J:=kv (fun Z:cp=>decide (Z.bg≠0)) q.n
  have aA:=ao.jq;have aZ:=ao.bf.gk
  rw [fc] at G
  refine ⟨by omega,fun k ag=>?_⟩
  have bT:k.cL∈q.n.filter fun Z=>decide (Z.bg≠0):=c ▸ bx.2 ⟨k,ag,rfl⟩
  exact iZ (ao.c2 k.cL (pt.1 bT).1) bd
def aoP{y:ab.ht}{bD x:Int}:(qR y bD x 8).length≤1000:=by
  unfold qR ab.iA
  have G:=kv (ab.kr bD x) ((List.range 8).filterMap y)
  have J:=Ds y (List.range 8)
  rw [DB] at J;omega
def Pa{p i Gm:Int}{r:cj}(c:BJ h N p i Gm r):N.hb 0:=⟨by rw [c.aY];decide,by rw [c.cW];decide,by rw [c.cd];decide,by decide⟩
end
end Go.LK.g
namespace Go.Proofs.YtohjlkjhpibkmaaGreatDoor
open Go Go.LK Go.Proofs.Tryz
set_option maxRecDepth 100000
set_option maxHeartbeats 4000000
def atW(p i Z:Int)(h_:Nat)(ej:Value)(f:List cj)(al:Int)(r:cj)(sU:Value.oneCell' ej=true)(S:f.length≤1000)(aS:∀ H∈f,H.cW.length≤1000)(wP:dd.nv p i Z f=0)(bB:0≤al)(G:al < (f.length:Int))(aC:f[al.toNat]?=some r)(bc:g.Mm p i f r):M prog 24 #[.agg #[p,i,Z,.int .u64 (Nat.cast h_:Int),ej],al] [bF ej 14 (f.map cj.cells),hZ (f.map cj.bF)] [] (fun m B=>∃ (s:Nat) (BZ B0:Value),m=.tuple #[s,.b 0]∧B=[ai s [.b p,.b i,.b Z,.int .u64 (Nat.cast h_:Int),ej,.b al,.b r.bK,.b r.bV,.b r.b8,.b r.bG,.b r.ch,.b r.b',.b r.cf,.b r.er,.b r.es,.b r.d',.b r.eO,.b r.eP,.b r.eQ,r.dA,.b 0,.b 0,.b 0,.b 0,Value.slice none 0 0,.b (dd.jc p i),.b r.cf,.b r.er,.b r.es,.b r.d',.b r.eO,.b r.eP,.b r.eQ,BZ,Value.slice none 0 0,.b 0,.b 0,.b r.bG,.b r.bG,.b 32,.b (dd.jc p i),.b 1,Value.slice none 0 0,B0,Value.slice none 0 0,Value.slice none 0 0] 125,row BZ 3 1 ((List.replicate (dd.jc p i).toNat (0:Int)).map bH),row B0 68 9 ((List.replicate (r.bK).toNat a7.zero).map a7.cells)]):=by
 have:=bc.an
 have:=bc.ih
 have kF:Value.oneCell' (Value.slice none 0 0)=true:=rfl
 refine M.aM func24 a ntmps24 a fun an=>?_
 refine P Yk ?_
 refine I 0 ?_
 intros
 refine K.fZ a (p4 (fun au=>au wP)) ?_
 refine I 0 ?_
 refine w.kK 17 a (p4 E) ?_
 refine I 1 ?_
 refine w.el (aV.jN st a (ax.b0 0 a)) a a ?_
 refine I 0 ?_
 refine K.fZ a (p4 E) ?_
 refine I 1 ?_
 refine w.A (aV.jy st tN a (ax.b0 0 a) aC a E) a<|w.A (aV.lX isAgg56 tN (ax.b0 0 a) aC 0 a E a) a ?_
 refine I 1 ?_
 intros
 refine w.cq (aq.dC 0 tN a a a a a (by simp only [k8,ri,jV,r.ok]<;>rfl) a) ?_
 rintro _ _ rfl
 refine I 0 ?_
 refine K.kD Tryz.bE ?_
 refine ar.gV 6 10 a ?_ ?_
 refine ar.fH (df [(0,6),(10,0),(6,0),(7,3),(11,0),(12,1)]) [0,1] aN a ?_
 refine P Yl ?_
 refine P (YY (dd.jc p i) r.bG r.cf r.er r.es r.d' r.eO r.eP r.eQ bc.EB bc.EC bc.Bh bc.dR bc.h_) ?_
 intro mG
 intro lv
 refine aD 1 ?_
 refine aL.one a (fun _ c=>by cases c<;>rfl) (ax.row 0 a) (fun ua=>?_)
 refine aD 2 ?_
 refine K.ef (df [(0,6),(6,0),(7,1),(8,0),(9,2)]) [1,2,3] Tryz.bE aN a ?_
 refine aD 4 ?_
 refine aL.f a (aq.yH (aI:=((⟨(⟨0,0,0,0,0,0,0⟩:T),0,Value.slice none 0 0,[],kF⟩:a7):a7)) (z:=a7.cells) (t:=r.bK.toNat) (H:=9) (bytes:=88) ws (fun j=>run_typeInfo j (by exact (wY).1)) abk j3 j2 a a Lh Lh bd a a bd a) a ?_
 rintro j1 _ rfl
 refine gr.kV [0,2,3,4] [1,2,3] a a<|aL.A a (aV.JH (ax.row 0 a) (fun Cy=>(U.dg (U.build [(0,.agg #[p,i,Z,.int .u64 (Nat.cast h_:Int),ej]),(1,.b al),(2,.agg #[r.bK,r.bV,r.b8,r.bG,r.ch,r.b',r.cf,r.er,r.es,r.d',r.eO,r.eP,r.eQ,r.dA]),(8,.agg #[.b (dd.jc p i),r.cf,r.er,r.es,r.d',r.eO,r.eP,r.eQ,lv,Value.slice none 0 0,.b 0,.b 0,r.bG,r.bG,.b 32,.b (dd.jc p i),.b 1]),(10,j1)] [.b p,.b i,.b Z,.int .u64 (Nat.cast h_:Int),ej,.b al,.b r.bK,.b r.bV,.b r.b8,.b r.bG,.b r.ch,.b r.b',.b r.cf,.b r.er,.b r.es,.b r.d',.b r.eO,.b r.eP,.b r.eQ,r.dA,.b 0,.b 0,.b 0,.b 0,Value.slice none 0 0,.b (dd.jc p i),.b r.cf,.b r.er,.b r.es,.b r.d',.b r.eO,.b r.eP,.b r.eQ,lv,Value.slice none 0 0,.b 0,.b 0,.b r.bG,.b r.bG,.b 32,.b (dd.jc p i),.b 1,Value.slice none 0 0,j1,Value.slice none 0 0,Value.slice none 0 0] #[(0,5),(5,1),(6,14),(20,1),(21,1),(22,1),(23,1),(24,1),(25,17),(42,1),(43,1),(44,1),(45,1)] xQ zeroValue125 (X1 underlying125) a (by cases j1<;>first|(simp [Value.oneCell'] at Cy;done)|(kernel_rfl;done)))))) a ?_
 refine aL.one a (fun _ c=>by cases c<;>rfl) (ax.row 0 a) (fun Aa=>?_)
 refine aF ?_
 intro Il
 exact aO ⟨_,_,_,a,a⟩
 refine ar.fH (df [(0,6),(6,0),(7,3),(10,0),(11,0),(12,1)]) [0,1] aN a ?_
 refine P Yl ?_
 refine P (YY (dd.jc p i) r.bG r.cf r.er r.es r.d' r.eO r.eP r.eQ bc.EB bc.EC bc.Bh bc.dR bc.h_) ?_
 intro mX
 refine aD 3 ?_
 intro ajl
 refine aL.one a (fun _ c=>by cases c<;>rfl) (ax.row 1 a) (fun Cv=>?_)
 refine aD 2 ?_
 refine K.ef (df [(0,6),(6,0),(7,1),(8,0),(9,2)]) [0,2,3] Tryz.bE aN a ?_
 refine aD 4 ?_
 refine aL.f a (aq.yH (aI:=((⟨(⟨0,0,0,0,0,0,0⟩:T),0,Value.slice none 0 0,[],kF⟩:a7):a7)) (z:=a7.cells) (t:=r.bK.toNat) (H:=9) (bytes:=88) ws (fun j=>run_typeInfo j (by exact (wY).1)) abk j3 j2 a a Lh Lh bd a a bd a) a ?_
 rintro HE _ rfl
 refine gr.kV [0,1,3,4] [1,2,3] a a<|aL.A a (aV.JH (ax.row 0 a) (fun ID=>(U.dg (U.build [(0,.agg #[p,i,Z,.int .u64 (Nat.cast h_:Int),ej]),(1,.b al),(2,.agg #[r.bK,r.bV,r.b8,r.bG,r.ch,r.b',r.cf,r.er,r.es,r.d',r.eO,r.eP,r.eQ,r.dA]),(8,.agg #[.b (dd.jc p i),r.cf,r.er,r.es,r.d',r.eO,r.eP,r.eQ,mX,Value.slice none 0 0,.b 0,.b 0,r.bG,r.bG,.b 32,.b (dd.jc p i),.b 1]),(10,HE)] [.b p,.b i,.b Z,.int .u64 (Nat.cast h_:Int),ej,.b al,.b r.bK,.b r.bV,.b r.b8,.b r.bG,.b r.ch,.b r.b',.b r.cf,.b r.er,.b r.es,.b r.d',.b r.eO,.b r.eP,.b r.eQ,r.dA,.b 0,.b 0,.b 0,.b 0,Value.slice none 0 0,.b (dd.jc p i),.b r.cf,.b r.er,.b r.es,.b r.d',.b r.eO,.b r.eP,.b r.eQ,mX,Value.slice none 0 0,.b 0,.b 0,.b r.bG,.b r.bG,.b 32,.b (dd.jc p i),.b 1,Value.slice none 0 0,HE,Value.slice none 0 0,Value.slice none 0 0] #[(0,5),(5,1),(6,14),(20,1),(21,1),(22,1),(23,1),(24,1),(25,17),(42,1),(43,1),(44,1),(45,1)] xQ zeroValue125 (X1 underlying125) a (by cases HE<;>first|(simp [Value.oneCell'] at ID;done)|(kernel_rfl;done)))))) a ?_
 refine aL.one a (fun _ c=>by cases c<;>rfl) (ax.row 0 a) (fun t'=>?_)
 refine aF ?_
 intro Im
 exact aO ⟨_,_,_,a,a⟩
def atV(p i Z:Int)(h_:Nat)(ej:Value)(f:List cj)(al:Int)(sU:Value.oneCell' ej=true)(S:f.length≤1000)(aS:∀ H∈f,H.cW.length≤1000)(ko:g.yM p i Z f al=false):M prog 24 #[.agg #[p,i,Z,.int .u64 (Nat.cast h_:Int),ej],al] [bF ej 14 (f.map cj.cells),hZ (f.map cj.bF)] [] (fun m B=>m=.tuple #[.pointer none,.b (if dd.nv p i Z f=0 then 7 else dd.nv p i Z f)]∧B=[]):=by
 refine M.aM func24 a ntmps24 a fun an=>?_
 refine P Yk ?_
 exact acs
def atU(p i Z:Int)(h_:Nat)(ej:Value)(f:List cj)(al:Int)(sU:Value.oneCell' ej=true)(S:f.length≤1000)(aS:∀ H∈f,H.cW.length≤1000)(ko:g.yM p i Z f al=true)(h:g.b3)(N:g.aO)(r:cj)(aC:f[al.toNat]?=some r)(bf:h.bC)(mJ:g.BJ h N p i al r)(bq:g.SM h p i Z h_ r):M prog 24 #[.agg #[p,i,Z,.int .u64 (Nat.cast h_:Int),ej],al] [bF ej 14 (f.map cj.cells),hZ (f.map cj.bF)] [] (fun m B=>∃ fS:g.ct,m=.tuple #[fS.s,.b 0]∧fS.ej=ej∧fS.dA=r.dA∧B=nk h fS (g.cK h N) [] (List.replicate h.b1.toNat a7.zero)):=by
 obtain ⟨wP,bB,G⟩:=g.Jt.1 ko
 refine (atW p i Z h_ ej f al r sU S aS wP bB G aC (g.Xt wP bB G aC)).conv (a'.refl _) ?_
 rintro m B ⟨s,BZ,B0,rfl,rfl⟩
 refine ⟨_,⟨(⟨s,ej,r.dA,.slice none 0 0,BZ,.slice none 0 0,.slice none 0 0,B0,.slice none 0 0,.slice none 0 0⟩:g.ct),rfl,rfl,rfl,rfl⟩,?_⟩
 rw [g.HR bf mJ]
 have hm:=bf.hm
 have jb:g.kt h (⟨s,ej,r.dA,.slice none 0 0,BZ,.slice none 0 0,.slice none 0 0,B0,.slice none 0 0,.slice none 0 0⟩:g.ct) (⟨0,0,0,0,(g.w8 h.ap h.bm r.cf r.er r.es r.d' r.eO r.eP r.eQ),[],[],List.replicate h.b1.toNat g.cp.zero,[],ab.nil⟩:g.cu)=[.b p,.b i,.b Z,.int .u64 (Nat.cast h_:Int),ej,.b al,.b r.bK,.b r.bV,.b r.b8,.b r.bG,.b r.ch,.b r.b',.b r.cf,.b r.er,.b r.es,.b r.d',.b r.eO,.b r.eP,.b r.eQ,r.dA,.b 0,.b 0,.b 0,.b 0,Value.slice none 0 0,.b (dd.jc p i),.b r.cf,.b r.er,.b r.es,.b r.d',.b r.eO,.b r.eP,.b r.eQ,BZ,Value.slice none 0 0,.b 0,.b 0,.b r.bG,.b r.bG,.b 32,.b (dd.jc p i),.b 1,Value.slice none 0 0,B0,Value.slice none 0 0,Value.slice none 0 0]:=by
  simp only [g.kt,g.w8,bq.bM,bq.cW,bq.b0,bq.key,bq.sE,bq.me,bq.f2,bq.f3,bq.f4,bq.f5,bq.f6,mJ.Gn,mJ.ap,mJ.b1,mJ.hD,mJ.qD,mJ.bm,mJ.fW,mJ.bD]
 have cs:((g.w8 h.ap h.bm r.cf r.er r.es r.d' r.eO r.eP r.eQ).S).take h.ap.toNat=List.replicate h.ap.toNat (0:Int):=g.Qq E
 unfold nk
 rw [jb,cs,←mJ.ap,←mJ.b1]
 refine a'.trans (a'.lC 175 4) (a'.trans (a'.lC 320 2) (a'.trans (OZ (Y:=3) h.b1.toNat) (a'.trans (a'.lC 66 7) (a'.trans (a'.lC 3 1) (a'.trans (a'.lC 3 1) (a'.trans (a'.wQ a'.P2) ?_))))))
 exact a'.bz [6,0,7,1,2,8,3,4,5] rfl
def at5(h:g.b3)(ah:g.ct)(q:g.cu)(aJ:List Int)(bu:List a7)(l:ou)(ao:g.nW h q aJ bu):M prog 26 #[ah.s,.agg #[l.iz,l.id,l.s_,l.s9,l.dg,l.s',l.s8,l.mx,l.td,l.tb,l.uD,l.og,l.tc,l.hv,l.uB,l.qA,l.uw,l.rb,l.eC,l.fp,l.e_,l.jP,l.iV,l.iW]] [bF ah.ej 14 (h.k1.map cj.cells),bF ah.dA 4 (h.bb.map cG.cells)] (nk h ah q aJ bu) (fun m B=>∃ (dS dK:Value) (l_:g.ct) (dY:List Int) (jn:List a7),m=.tuple #[.agg #[dS,dK],.b (g.kB h q l).2.2.2]∧g.wa h (g.kB h q l).1 dY aJ jn∧B=nk h (g.ct.as ah l_) (g.kB h q l).1 dY jn++[row dS 51 7 (((g.kB h q l).2.1).map aK.cells),row dK 62 23 (((g.kB h q l).2.2.1).map bk.cells)]):=by
 have:=ao.z
 have ⟨_,_,_,_,_⟩:=ao.L
 refine M.aM func26 a ntmps26 a fun an=>?_
 refine aU ?_ ?_
 refine P atZ ?_
 intro _ _ e_
 rintro _ _ ⟨xJ,F5,R6,W7,jl8,rfl,hk9,rfl⟩
 refine I 0 ?_
 refine w.one (ax.row 9 a) (fun Aa=>?_)
 refine w.one (ax.row 10 a) (fun t_=>?_)
 refine aF ?_
 exact aO (by have dk:g.kB h q l=(g.je h q l.s_ l.s9 l.dg l.s' l.s8 l.mx):=(by unfold g.kB;rw [ee e_]);rw [dk];exact ⟨_,_,R6,W7,jl8,rfl,hk9,rfl⟩)
 refine aU ?_ ?_
 refine P atT ?_
 intro _ _ e_ mQ
 rintro _ _ ⟨ad2,F15,R16,W17,jl18,rfl,hk19,rfl⟩
 refine I 0 ?_
 refine w.one (ax.row 9 a) (fun Ac=>?_)
 refine w.one (ax.row 10 a) (fun NQ=>?_)
 refine aF ?_
 exact aO (by have dk:g.kB h q l=(g.kC h q l.id):=(by unfold g.kB;rw [be e_,ee mQ]);rw [dk];exact ⟨_,_,R16,W17,jl18,rfl,hk19,rfl⟩)
 refine aU ?_ ?_
 refine P atQ ?_
 intro _ _ e_ mQ qz
 rintro _ _ ⟨D3,F25,R26,W27,jl28,rfl,hk29,rfl⟩
 refine I 0 ?_
 refine w.one (ax.row 9 a) (fun azO=>?_)
 refine w.one (ax.row 10 a) (fun azP=>?_)
 refine aF ?_
 exact aO (by have dk:g.kB h q l=(g.n5 h q l.id):=(by unfold g.kB;rw [be e_,be mQ,ee qz]);rw [dk];exact ⟨_,_,R26,W27,jl28,rfl,hk29,rfl⟩)
 refine aU ?_ ?_
 refine P atY ?_
 intro _ _ e_ mQ qz uv
 rintro _ _ ⟨axH,F35,R36,W37,jl38,rfl,hk39,rfl⟩
 refine I 0 ?_
 refine w.one (ax.row 9 a) (fun aj2=>?_)
 refine w.one (ax.row 10 a) (fun NS=>?_)
 refine aF ?_
 exact aO (by have dk:g.kB h q l=(g.iX h q l.td l.tb l.uD l.og l.tc l.hv l.uB):=(by unfold g.kB;rw [be e_,be mQ,be qz,ee uv]);rw [dk];exact ⟨_,_,R36,W37,jl38,rfl,hk39,rfl⟩)
 refine aU ?_ ?_
 refine aD 1 ?_
 intro _ _ e_ mQ qz uv A3
 refine P atX ?_
 rintro _ _ ⟨D4,F45,R46,Mv,OW,rfl,hk49,rfl⟩
 refine I 0 ?_
 refine w.one (ax.row 9 a) (fun aj4=>?_)
 refine w.one (ax.row 10 a) (fun aj5=>?_)
 refine aF ?_
 exact aO (by have dk:g.kB h q l=(g.rd h q l.qA l.uw [l.rb,l.eC,l.fp,l.e_,l.jP,l.iV,l.iW]):=(by unfold g.kB;rw [be e_,be mQ,be qz,be uv,ee A3]);rw [dk];exact ⟨_,_,R46,Mv,OW,rfl,hk49,rfl⟩)
 refine aU ?_ ?_
 refine P at2 ?_
 intro _ _ e_ mQ qz uv A3 FX
 rintro _ _ ⟨axJ,F55,R56,W57,jl58,rfl,hk59,rfl⟩
 refine w.one (ax.row 9 a) (fun az3=>?_)
 refine w.one (ax.row 10 a) (fun Vx=>?_)
 refine aF ?_
 exact aO (by have dk:g.kB h q l=(g.pp h q):=(by unfold g.kB;rw [be e_,be mQ,be qz,be uv,be A3,ee FX]);rw [dk];exact ⟨_,_,R56,W57,jl58,(by rw [g.awk];rfl),hk59,rfl⟩)
 refine aU ?_ ?_
 refine P at0 ?_
 intro _ _ e_ mQ qz uv A3 FX FY
 rintro _ _ ⟨axL,F65,R66,W67,jl68,rfl,hk69,rfl⟩
 refine w.one (ax.row 9 a) (fun az7=>?_)
 refine w.one (ax.row 10 a) (fun Vy=>?_)
 refine aF ?_
 exact aO (by have dk:g.kB h q l=(g.uC h q):=(by unfold g.kB;rw [be e_,be mQ,be qz,be uv,be A3,be FX,ee FY]);rw [dk];exact ⟨_,_,R66,W67,jl68,rfl,hk69,rfl⟩)
 intro _ _ e_ mQ qz uv A3 FX FY
 refine K.eV 4 a ?_
 refine aD 1 ?_
 refine w.cq (aq.dC 0 o2 a a a a a a a) ?_
 rintro _ _ rfl
 refine w.dw 2 a<|K.fg 51 7 (([]:List aK).map aK.cells) a<|K.fg 62 23 (([]:List bk).map bk.cells) a ?_
 refine aF ?_
 exact aO (by have dk:g.kB h q l=(q,[],[],0):=(by unfold g.kB;rw [be e_,be mQ,be qz,be uv,be A3,be FX,be FY]);rw [dk];exact ⟨_,_,ah,aJ,bu,rfl,⟨ao.n,ao.b1,E⟩,rfl⟩)
def apL(ky mF:Value)(f t:List Int)(S:f.length≤100000)(bh:t.length≤100000):M prog 65 #[ky,mF] [bF ky 1 (f.map bH),bF mF 1 (t.map bH)] [] (fun m B=>m=.bool (decide (f=t))∧B=[]):=by
 refine M.aM func65 a ntmps65 a fun an=>?_
 refine aU ?_ ?_
 refine aF ?_
 intros
 exact aO ⟨(by have au:f≠t:=(fun au=>by subst au;omega);simp [au,ed]),a⟩
 refine I 0 ?_
 intros
 refine de (bo:=Nat) (fun d=>d≤f.length∧f.length=t.length∧f.take d=t.take d) (fun d=>[(5,.b (d:Int))]) (fun d=>[]) (fun d=>f.length-d) 0 [0,1] ⟨by omega,by omega,rfl⟩ ?_
 rintro d ⟨R,AA,ci⟩
 refine aU (fun fp=>?_) (fun fp=>?_)
 refine I 0 ?_
 refine w.el (aV.jN gz a (ax.b0 1 a)) a a ?_
 refine I 0 ?_
 refine K.lN a (c9 E) ?_
 refine I 0 ?_
 refine K.kk Tryz.bE aN ?_
 refine aD 0 ?_
 obtain ⟨cP,il⟩:=c4 (f:=f) (b:=d) E
 refine aD 2 ?_
 obtain ⟨cQ,h3⟩:=c4 (f:=t) (b:=d) E
 refine aU ?_ ?_
 refine aF ?_
 intros
 exact aO ⟨(by have au:f≠t:=(fun au=>by subst au;have dx:=il.symm.trans h3;cases dx;omega);simp [au,ed]),a⟩
 refine I 1 ?_
 intros
 exact da (d+1) ⟨by omega,AA,(by rw [hx,hx,ci,il,h3,(ke.1 bO:cP=cQ)])⟩
 refine aF ?_
 exact aO ⟨(by have au:f=t:=abo;simp [au,ed]),a⟩
def apM(ky mF:Value)(f:List Int)(S:f.length≤100000):M prog 65 #[ky,mF] [bF ky 1 (f.map bH),bF mF 1 (f.map bH)] [] (fun m B=>m=.bool true∧B=[]):=by
 have au:=apL ky mF f f S S
 rw [c9 (rfl:f=f)] at au;exact au
def YO(h:g.b3)(N:g.aO)(ah:g.ct)(aJ:List Int)(bu:List a7)(bf:h.bC)(aW:N.bC h)(ao:g.nW h (g.cK h N) aJ bu)(ga:Value.oneCell' ah.jU=true)(kG:Value.oneCell' ah.gK=true)(gN:Value.oneCell' ah.eD=true):M prog 25 #[h.s,ah.s] [ai h.s (g.io h N.x N.bS N.aY N.bb) 90,iH h N.d,ll h N.A,gQ h N.af,cw h.hC g.li N.cX,c1 (g.h4 3 N.cX),fW h N.bz,ai h.k2 (ab.iC h.bD N.y) 215,ai ah.s (g.kt h ah (g.cK h N)) 125,bF ah.ae 1 (((g.cK h N).bz).map bH),bF ah.e5 7 (((g.cK h N).A).map T.cells),bF ah.jU 9 (bu.map a7.cells),c1 (bu.map (a7.row 3)),bF ah.hp 4 ((ab.row (g.cK h N).y).map cR.cells)] [] (fun m B=>m=.bool true∧B=[]):=by
 have:=bf.z
 have:=ao.z
 have ⟨_,_,_,_,_⟩:=ao.L
 have Av:=ao.yC
 have akF:=g.atK ao.n
 refine M.aM func25 a ntmps25 a fun an=>?_
 refine I 0 ?_
 refine K.ef (df [(0,59),(60,4),(59,0),(64,0),(65,3),(69,1),(68,0),(70,0),(71,0),(72,3),(76,13),(75,0),(89,0),(90,0),(91,3),(95,4),(94,0),(99,0),(100,2)]) [] Tryz.bE aN a ?_
 refine P aqK ?_
 refine aL.Z 3 a<|aL.A a (aV.gb 8 ds a a a) a<|aL.Z 2 a<|aL.eg (u:=12) a a a (c9 a) a (U.dg (U.move a)) a<|aL.yd (ae:=[h.s]) (fP:=[]) (u:=12) a a a (c9 a) a (by exact call29) a a (aqW h N.x N.bS N.aY N.bb) (fun _ _ c=>c) (eI.b0 0 a [] a eI.nil) a<|aL.eg (u:=12) a a a (c9 a) a (U.dg (U.move a)) a<|aL.eg (u:=12) a a a (c9 a) a (U.dg (U.nilCheck a)) a<|aL.eg (u:=12) a a a (c9 a) a (U.dg (U.fieldAddr (l0:=21) xQ a dt a a a)) a<|aL.eg (u:=12) a a a (c9 a) a (aV.gb 8 ds a a a) a<|aL.eg (u:=12) a a a (c9 a) a (U.dg (U.eql a a)) a<|aL.n a (U.s7 a (c9 a) a) a<|aL.Z 1 a<|aL.eg (u:=21) a a a (c9 a) a (U.dg (U.move a)) a<|aL.yd (ae:=[h.s]) (fP:=[]) (u:=21) a a a (c9 a) a (by exact call18) a a (JB h N.x N.bS N.aY N.bb N.d) (fun _ _ c=>c) (eI.b0 0 a [] a (eI.b0 1 a [] a eI.nil)) a<|aL.eg (u:=21) a a a (c9 a) a (U.dg (U.move a)) a<|aL.eg (u:=21) a a a (c9 a) a (U.dg (U.nilCheck a)) a<|aL.eg (u:=21) a a a (c9 a) a (U.dg (U.fieldAddr (l0:=25) xQ a B4 a a a)) a<|aL.eg (u:=21) a a a (c9 a) a (U.dg (U.fieldAddr (l0:=40) Hw a dt a a a)) a<|aL.eg (u:=21) a a a (c9 a) a (aV.gb 8 ds a a a) a<|aL.eg (u:=21) a a a (c9 a) a (U.dg (U.eql a a)) a ?_
 refine aL.n a (U.s7 a (c9 a) a) a<|aL.Z 1 a<|aL.eg (u:=31) a a a (c9 a) a (U.dg (U.move a)) a<|aL.yd (ae:=[h.s]) (fP:=[]) (u:=31) a a a (c9 a) a (by exact call19) a a (JC h N.x N.bS N.aY N.bb N.d) (fun _ _ c=>c) (eI.b0 0 a [] a (eI.b0 1 a [] a eI.nil)) a<|aL.eg (u:=31) a a a (c9 a) a (U.dg (U.move a)) a<|aL.eg (u:=31) a a a (c9 a) a (U.dg (U.nilCheck a)) a<|aL.eg (u:=31) a a a (c9 a) a (U.dg (U.fieldAddr (l0:=25) xQ a B4 a a a)) a<|aL.eg (u:=31) a a a (c9 a) a (U.dg (U.fieldAddr (l0:=37) Hw a sizeOf118 a a a)) a<|aL.eg (u:=31) a a a (c9 a) a (U.dg (U.fieldAddr (l0:=38) runUnderlying118 a dt a a a)) a<|aL.eg (u:=31) a a a (c9 a) a (aV.gb 8 ds a a a) a<|aL.eg (u:=31) a a a (c9 a) a (U.dg (U.eql a a)) a<|aL.n a (U.s7 a (c9 a) a) a<|aL.Z 1 a<|aL.eg (u:=42) a a a (c9 a) a (U.dg (U.move a)) a<|aL.yd (ae:=[h.s]) (fP:=[]) (u:=42) a a a (c9 a) a (by exact call17) a a (Px h N.x N.bS N.aY N.bb N.d) (fun _ _ c=>c) (eI.b0 0 a [] a (eI.b0 1 a [] a eI.nil)) a<|aL.eg (u:=42) a a a (c9 a) a (U.dg (U.move a)) a<|aL.eg (u:=42) a a a (c9 a) a (U.dg (U.nilCheck a)) a<|aL.eg (u:=42) a a a (c9 a) a (U.dg (U.fieldAddr (l0:=25) xQ a B4 a a a)) a<|aL.eg (u:=42) a a a (c9 a) a (U.dg (U.fieldAddr (l0:=41) Hw a dt a a a)) a<|aL.eg (u:=42) a a a (c9 a) a (aV.gb 8 ds a a a) a ?_
 refine aL.eg (u:=42) a a a (c9 a) a (U.dg (U.eql a a)) a<|aL.n a (U.s7 a (c9 a) a) a<|aL.Z 1 a<|aL.eg (u:=52) a a a (c9 a) a (U.dg (U.move a)) a<|aL.yd (ae:=[h.s]) (fP:=[]) (u:=52) a a a (c9 a) a (by exact call30) a a (aqG h N.x N.bS N.aY N.bb N.d) (fun _ _ c=>c) (eI.b0 0 a [] a (eI.b0 1 a [] a eI.nil)) a<|aL.eg (u:=52) a a a (c9 a) a (U.dg (U.move a)) a<|aL.eg (u:=52) a a a (c9 a) a (U.dg (U.nilCheck a)) a<|aL.eg (u:=52) a a a (c9 a) a (U.dg (U.fieldAddr (l0:=25) xQ a B4 a a a)) a<|aL.eg (u:=52) a a a (c9 a) a (aV.Xe 8 isAgg120 B4 a a a) a<|aL.yd (ae:=[.agg #[h.ap,.b ((g.cK h N).d.cb),.b ((g.cK h N).d.bJ),.b ((g.cK h N).d.bR),.b ((g.cK h N).d.b4),.b ((g.cK h N).d.bY),.b ((g.cK h N).d.b_),.b ((g.cK h N).d.cy),ah.gK,ah.eD,.b ((g.cK h N).d.cA),.b ((g.cK h N).d.held),h.bm,.b ((g.cK h N).d.aR),.b ((g.cK h N).d.gh),.b ((g.cK h N).d.aa),.b ((g.cK h N).d.aP)]]) (fP:=[]) (u:=52) a a a (c9 a) a (by exact call59) a a (aut h.ap ((g.cK h N).d.cb) ((g.cK h N).d.bJ) ((g.cK h N).d.bR) ((g.cK h N).d.b4) ((g.cK h N).d.bY) ((g.cK h N).d.b_) ((g.cK h N).d.cy) ((g.cK h N).d.cA) ((g.cK h N).d.held) h.bm ((g.cK h N).d.aR) ((g.cK h N).d.gh) ((g.cK h N).d.aa) ((g.cK h N).d.aP) ah.gK ah.eD kG gN) (fun _ _ c=>c) eI.nil a<|aL.eg (u:=52) a a a (c9 a) a (U.dg (U.eql a a)) a<|aL.n a (U.s7 a (c9 a) a) a<|aL.Z 1 a<|aL.eg (u:=62) a a a (c9 a) a (U.dg (U.move a)) a<|aL.eg (u:=62) a a a (c9 a) a (U.dg (U.move a)) a<|aL.eg (u:=62) a a a (c9 a) a (U.dg (U.nilCheck a)) a<|aL.eg (u:=62) a a a (c9 a) a (U.dg (U.fieldAddr (l0:=42) xQ a pE a a a)) a<|aL.eg (u:=62) a a a (c9 a) a (aV.gb 8 isAgg52 a a a) a ?_
 refine aL.oC (u:=62) a a a (c9 a) a (aq.fl call13 (aqN h N bf aW) [] a a (.b0 0 a (.b0 2 a .nil))) a ?_
 rintro ti _ ⟨_,rfl,rfl⟩
 refine aD 1 ?_
 refine aL.oC (u:=62) a a a (c9 a) a (aq.fl call60 (as8 ti ah.e5 (g.eL N.A.u) (iZ ao.A bd)) [] a a (.eo 0 jz a a (.b0 10 a .nil))) a ?_
 rintro _ _ ⟨_,⟨rfl,rfl⟩,rfl⟩
 refine gr.kV [] [] a a<|aL.n a (U.s7 a (c9 a) a) a<|aL.Z 3 a ?_
 refine aL.oD (aq.fl call14 (Xz h N bf aW) [] a a (.b0 0 a (.b0 3 a (.b0 4 a (.b0 5 a .nil))))) a a a ?_
 rintro xj _ ⟨_,⟨C5,pc,rfl⟩,rfl⟩
 refine aD 1 ?_
 refine aL.oD (aq.fl call62 (YJ h ah (g.cK h N) bu E ga) [] a a (.b0 8 a (.b0 11 a .nil))) a a a ?_
 rintro p2 _ ⟨_,rfl,rfl⟩
 refine aD 1 ?_
 refine aL.oD (aq.fl call61 (atx xj p2 C5 (bu.filter (fun k:a7=>decide (k.bg≠0))) (g.WV ao pc).1 (by rw [akF];exact pc) (g.WV ao pc).2) [] a a (.eo 1 jz a a (.eo 0 jz a a (.eo 2 O0 a a (.og 12 aox a .nil))))) a a a ?_
 rintro _ _ ⟨_,⟨rfl,rfl⟩,rfl⟩
 refine aD 4 ?_
 refine aL.oD (aq.fl call21 (aqH h N bf aW) [] a a (.b0 0 a (.b0 7 a .nil))) a a a ?_
 rintro ZQ _ ⟨_,rfl,rfl⟩
 refine aD 1 ?_
 refine aL.oD (aq.fl call64 (Yi ah.hp (ab.row (g.cK h N).y) h.bD (g.cK h N).x (by have au:=ab.Kd (g.cK h N).y;omega)) [] a a (.b0 13 a .nil)) a a a ?_
 rintro KD _ ⟨_,rfl,rfl⟩
 refine aD 1 ?_
 refine aL.oD (aq.fl call63 (atc ZQ KD (g.qR N.y h.bD N.x 8) g.aoP) [] a a (.eo 1 jz a a (.eo 0 jz a a .nil))) a a a ?_
 rintro _ _ ⟨_,⟨rfl,rfl⟩,rfl⟩
 refine aD 2 ?_
 refine aL.oD (aq.fl call22 (aqT h N bf aW) [] a a (.b0 0 a (.b0 6 a .nil))) a a a ?_
 rintro ZR _ ⟨_,rfl,rfl⟩
 refine aD 1 ?_
 refine aL.oD (aq.fl call65 (apM ZR ah.ae N.bz.C (by have au:(N.bz.C.length:Int)≤h.fW:=ao.bz;have dx:=bf.jw;omega)) [] a a (.eo 0 jz a a (.b0 9 a .nil))) a a a ?_
 exact RO
end Go.Proofs.YtohjlkjhpibkmaaGreatDoor
