/-
  Rules and plain laws that the walks use.
-/
import Derived.KernelRfl
import Derived.Test.YtohjlkjhpibkmaaGreatDoorE16
import Derived.Test.YtohjlkjhpibkmaaGreatDoorE27
import Derived.Test.YtohjlkjhpibkmaaGreatDoorE15
import Derived.Test.YtohjlkjhpibkmaaGreatDoorE03
import Derived.Test.YtohjlkjhpibkmaaGreatDoorE25
set_option linter.all false
namespace Go.Proofs.YtohjlkjhpibkmaaGreatDoor
open Go Go.LK Go.Proofs.Tryz
set_option maxRecDepth 100000
set_option maxHeartbeats 4000000
def Kh(s:Int)(bB:0≤s)(G:s≤4294967295):M prog 252 #[s] [] [] (fun m B=>m=.b (ab.cc (s+1) 4294967295)∧B=[]):=by
 refine M.aM func252 a ntmps252 a fun an=>?_
 refine P vH ?_
 exact cH
def y1(ap cb bJ bR b4 bY b_ cy cA held bm aR gh aa aP:Int)(ae eD:Value)(uj:Value.oneCell' ae=true)(gN:Value.oneCell' eD=true)(gB:0≤ap)(hm:ap≤128):M prog 254 #[.agg #[ap,cb,bJ,bR,b4,bY,b_,cy,ae,eD,cA,held,bm,aR,gh,aa,aP]] [] [] (fun m B=>∃ X,m=.agg #[ap,cb,bJ,bR,b4,bY,b_,cy,X,Value.slice none 0 0,cA,held,bm,aR,gh,aa,aP]∧B=[row X 3 1 ((List.replicate ap.toNat (0:Int)).map bH)]):=by
 refine M.aM func254 a ntmps254 a fun an=>?_
 refine I 3 ?_
 intros
 refine w.f (aq.yH (aI:=(0:Int)) (z:=bH) (t:=ap.toNat) (H:=1) (bytes:=8) gz (fun j=>run_typeInfo j DN) GZ dt iF a a E E bd a a bd a) a ?_
 rintro u0 _ rfl
 refine I 0 ?_
 refine w.one (ax.row 0 a) (fun yj=>?_)
 refine w.cq (aq.gy 2 tO yj a a a a) ?_
 rintro _ _ rfl
 exact cH
def auJ(ap cb bJ bR b4 bY b_ cy cA held bm aR gh aa aP:Int)(ae eD:Value)(f:List Int)(e:Int)(uj:Value.oneCell' ae=true)(gN:Value.oneCell' eD=true)(S:f.length≤1000)(ana:0≤e)(anb:e < (f.length:Int)):M prog 152 #[.agg #[ap,cb,bJ,bR,b4,bY,b_,cy,ae,eD,cA,held,bm,aR,gh,aa,aP],e] [bF ae 1 (f.map bH)] [] (fun m B=>∃ X,m=.tuple #[.agg #[ap,cb,bJ,bR,b4,bY,b_,cy,X,eD,cA,held,bm,aR,gh,aa,aP],.bool true]∧B=[row X 3 1 ((f.set e.toNat (g.fv (f.getD e.toNat 0) 1)).map bH)]):=by
 refine M.aM func152 a ntmps152 a fun an=>?_
 refine P auw ?_
 refine I 0 ?_
 intro _ _ u0
 refine w.one (ax.row 0 a) (fun Cx=>?_)
 refine w.cq (aq.gy 2 tO Cx a a a a) ?_
 rintro _ _ rfl
 exact cH
def auR(ap cb bJ bR b4 bY b_ cy cA held bm aR gh aa aP:Int)(ae eD:Value)(f:List Int)(e:Int)(uj:Value.oneCell' ae=true)(gN:Value.oneCell' eD=true)(S:f.length≤99000):M prog 240 #[.agg #[ap,cb,bJ,bR,b4,bY,b_,cy,ae,eD,cA,held,bm,aR,gh,aa,aP],e] [bF eD 1 (f.map bH)] [] (fun m B=>∃ X,m=.agg #[ap,cb,bJ,bR,b4,bY,b_,cy,ae,X,cA,held,bm,aR,gh,aa,aP]∧B=[row X 3 1 ((f++[e]).map bH)]):=by
 refine M.aM func240 a ntmps240 a fun an=>?_
 refine I 3 ?_
 intros
 refine w.fg 3 1 (([]:List Int).map bH) a ?_
 refine aD 1 ?_
 intro u0
 refine w.f (aq.fs bH [e] gz dt iF a a a aN a a) a ?_
 rintro fd _ rfl
 refine aD 1 ?_
 intro lv
 refine w.one (ax.row 1 a) (fun o_=>?_)
 refine w.cq (aq.gy 3 tO o_ a a a a) ?_
 rintro _ _ rfl
 exact cH
def auH(ap cb bJ bR b4 bY b_ cy cA held bm aR gh aa aP:Int)(ae eD:Value)(uj:Value.oneCell' ae=true)(gN:Value.oneCell' eD=true)(gB:0≤ap)(hm:ap≤128)(ne:0≤aP)(nz:aP≤4294967295):M prog 172 #[.agg #[ap,cb,bJ,bR,b4,bY,b_,cy,ae,eD,cA,held,bm,aR,gh,aa,aP]] [] [] (fun m B=>∃ X,m=.agg #[ap,cb,bJ,bR,b4,bY,b_,cy,X,Value.slice none 0 0,.b 0,.b 0,bm,bm,.b 32,ap,.b (ab.cc (aP+1) 4294967295)]∧B=[row X 3 1 ((List.replicate ap.toNat (0:Int)).map bH)]):=by
 refine M.aM func172 a ntmps172 a fun an=>?_
 refine P Kh ?_
 refine P YZ ?_
 refine P y1 ?_
 intro _ _ lv
 refine w.one (ax.row 0 a) (fun ua=>?_)
 exact cH
def auO(br:Value)(f S:List Int)(ap aa mM:Int)(IV:(f.length:Int)=ap)(h9:f=S.take f.length)(Az:f.length≤128):M prog 250 #[br,aa,mM] [bF br 1 (f.map bH)] [] (fun m B=>m=.b (g.oi ap S aa mM)∧B=[]):=IV ▸ auN br f S aa mM h9 Az
def Y0(br:Value)(f S:List Int)(ap aa nb cut:Int)(IV:(f.length:Int)=ap)(h9:f=S.take f.length)(Az:f.length≤128):M prog 251 #[br,aa,nb,cut] [bF br 1 (f.map bH)] [] (fun m B=>m=.b (g.ma ap S aa nb cut)∧B=[]):=IV ▸ auv br f S aa nb cut h9 Az
def auu(ap cb bJ bR b4 bY b_ cy cA held bm aR gh aa aP:Int)(ae eD:Value)(f S aJ:List Int)(uj:Value.oneCell' ae=true)(gN:Value.oneCell' eD=true)(IV:(f.length:Int)=ap)(h9:f=S.take f.length)(Az:f.length≤128)(ix:aJ.length≤99000)(ne:0≤aP)(nz:aP≤4294967295)(kY:-1≤cA)(gk:cA≤1)(aAH:cA=0→held=0)(aAr:1≤b_)(jl:0≤aR)(lg:aR≤bm)(lh:bm≤7):M prog 171 #[.agg #[ap,cb,bJ,bR,b4,bY,b_,cy,ae,eD,cA,held,bm,aR,gh,aa,aP]] [bF ae 1 (f.map bH),bF eD 1 (aJ.map bH)] [] (fun m B=>∃ X,m=.tuple #[.agg #[ap,cb,bJ,bR,b4,bY,b_,cy,X,Value.slice none 0 0,.b ((g.gD cA held (g.gn (g.gd (g.h0 aJ) (aJ.length:Int)) cb bJ) b_).2.1),.b ((g.gD cA held (g.gn (g.gd (g.h0 aJ) (aJ.length:Int)) cb bJ) b_).2.2),bm,.b ((g.iv bm aR gh (g.gn (g.gd (g.h0 aJ) (aJ.length:Int)) cb bJ) (decide ((g.hQ ap S aa b4 bY bR (g.gD cA held (g.gn (g.gd (g.h0 aJ) (aJ.length:Int)) cb bJ) b_).1)=ap)) cy).2.1),.b ((g.iv bm aR gh (g.gn (g.gd (g.h0 aJ) (aJ.length:Int)) cb bJ) (decide ((g.hQ ap S aa b4 bY bR (g.gD cA held (g.gn (g.gd (g.h0 aJ) (aJ.length:Int)) cb bJ) b_).1)=ap)) cy).2.2),.b (g.hQ ap S aa b4 bY bR (g.gD cA held (g.gn (g.gd (g.h0 aJ) (aJ.length:Int)) cb bJ) b_).1),.b (g.lB aa (g.hQ ap S aa b4 bY bR (g.gD cA held (g.gn (g.gd (g.h0 aJ) (aJ.length:Int)) cb bJ) b_).1) aP)],.agg #[.b (g.gn (g.gd (g.h0 aJ) (aJ.length:Int)) cb bJ),.b (g.hQ ap S aa b4 bY bR (g.gD cA held (g.gn (g.gd (g.h0 aJ) (aJ.length:Int)) cb bJ) b_).1),.b (g.iv bm aR gh (g.gn (g.gd (g.h0 aJ) (aJ.length:Int)) cb bJ) (decide ((g.hQ ap S aa b4 bY bR (g.gD cA held (g.gn (g.gd (g.h0 aJ) (aJ.length:Int)) cb bJ) b_).1)=ap)) cy).2.1,.b (g.lB aa (g.hQ ap S aa b4 bY bR (g.gD cA held (g.gn (g.gd (g.h0 aJ) (aJ.length:Int)) cb bJ) b_).1) aP),.bool (!decide ((g.hQ ap S aa b4 bY bR (g.gD cA held (g.gn (g.gd (g.h0 aJ) (aJ.length:Int)) cb bJ) b_).1)=aa)),.bool (g.iv bm aR gh (g.gn (g.gd (g.h0 aJ) (aJ.length:Int)) cb bJ) (decide ((g.hQ ap S aa b4 bY bR (g.gD cA held (g.gn (g.gd (g.h0 aJ) (aJ.length:Int)) cb bJ) b_).1)=ap)) cy).1]]∧B=[row X 3 1 ((List.replicate ap.toNat (0:Int)).map bH)]):=by
 have gB:0≤ap:=by omega
 have hm:ap≤128:=by omega
 refine M.aM func171 a ntmps171 a fun an=>?_
 refine I 3 ?_
 intros
 refine K.hW 11 Tryz.bE aN ?_
 refine P auz ?_
 refine P auy ?_
 refine P auM ?_
 refine aU ?_ ?_
 refine P auO ?_
 refine aU ?_ ?_
 refine P Y0 ?_
 refine aU ?_ ?_
 refine P Kh ?_
 refine P Ba ?_
 refine I 6 ?_
 intros
 refine K.ef (df [(0,1),(2,13),(1,0),(15,0),(16,0)]) [0,4] Tryz.bE aN a ?_
 refine P y1 ?_
 intro pA
 refine aD 1 ?_
 refine aL.one a (fun _ c=>by cases c<;>rfl) (ax.row 0 a) (fun Cw=>?_)
 exact adb
 refine P Ba ?_
 refine I 6 ?_
 intros
 refine K.ef (df [(0,1),(2,13),(1,0),(15,0),(16,0)]) [0,4] Tryz.bE aN a ?_
 refine P y1 ?_
 intro Mq
 refine aD 1 ?_
 refine aL.one a (fun _ c=>by cases c<;>rfl) (ax.row 0 a) (fun Ac=>?_)
 exact adc
 refine aU ?_ ?_
 refine P Kh ?_
 refine P Ba ?_
 refine I 6 ?_
 intros
 refine K.ef (df [(0,1),(2,13),(1,0),(15,0),(16,0)]) [0,4] Tryz.bE aN a ?_
 refine P y1 ?_
 intro Mt
 refine aD 1 ?_
 refine aL.one a (fun _ c=>by cases c<;>rfl) (ax.row 0 a) (fun NR=>?_)
 refine aF ?_
 exact aO ⟨_,(by have IY:=g.Gu (cA:=cA) (held:=held) (m:=(g.gn (g.gd (g.h0 aJ) (aJ.length:Int)) cb bJ)) (ev:=b_);have n7:(g.hQ ap S aa b4 bY bR (g.gD cA held (g.gn (g.gd (g.h0 aJ) (aJ.length:Int)) cb bJ) b_).1)=(g.oi ap S aa b4):=G_;have hE_:g.lB aa (g.oi ap S aa b4) aP=(ab.cc (aP+1) 4294967295):=G';rw [n7,hE_,show (!decide ((g.oi ap S aa b4)=aa))=decide ((g.oi ap S aa b4)≠aa) from by simp];rfl),a⟩
 refine P Ba ?_
 refine I 6 ?_
 intros
 refine K.ef (df [(0,1),(2,13),(1,0),(15,0),(16,0)]) [0,4] Tryz.bE aN a ?_
 refine P y1 ?_
 intro aet
 refine aD 1 ?_
 refine aL.one a (fun _ c=>by cases c<;>rfl) (ax.row 0 a) (fun azQ=>?_)
 refine aF ?_
 exact aO ⟨_,(by have IY:=g.Gu (cA:=cA) (held:=held) (m:=(g.gn (g.gd (g.h0 aJ) (aJ.length:Int)) cb bJ)) (ev:=b_);have n7:(g.hQ ap S aa b4 bY bR (g.gD cA held (g.gn (g.gd (g.h0 aJ) (aJ.length:Int)) cb bJ) b_).1)=(g.oi ap S aa b4):=G_;have hE_:g.lB aa (g.oi ap S aa b4) aP=aP:=G';rw [n7,hE_,show (!decide ((g.oi ap S aa b4)=aa))=decide ((g.oi ap S aa b4)≠aa) from by simp];rfl),a⟩
 refine aU ?_ ?_
 refine P Y0 ?_
 refine aU ?_ ?_
 refine P Kh ?_
 refine P Ba ?_
 refine I 6 ?_
 intros
 refine K.ef (df [(0,1),(2,13),(1,0),(15,0),(16,0)]) [0,4] Tryz.bE aN a ?_
 refine P y1 ?_
 intro axW
 refine aD 1 ?_
 refine aL.one a (fun _ c=>by cases c<;>rfl) (ax.row 0 a) (fun NS=>?_)
 exact adb
 refine P Ba ?_
 refine I 6 ?_
 intros
 refine K.ef (df [(0,1),(2,13),(1,0),(15,0),(16,0)]) [0,4] Tryz.bE aN a ?_
 refine P y1 ?_
 intro S8
 refine aD 1 ?_
 refine aL.one a (fun _ c=>by cases c<;>rfl) (ax.row 0 a) (fun azW=>?_)
 exact adc
 refine I 1 ?_
 intros
 refine K.fZ a oU ?_
 refine P Ba ?_
 refine I 6 ?_
 intros
 refine K.ef (df [(0,1),(2,13),(1,0),(15,0),(16,0)]) [0,4] Tryz.bE aN a ?_
 refine P y1 ?_
 intro aey
 refine aD 1 ?_
 refine aL.one a (fun _ c=>by cases c<;>rfl) (ax.row 0 a) (fun aj5=>?_)
 refine aF ?_
 exact aO ⟨_,(by have IY:=g.Gu (cA:=cA) (held:=held) (m:=(g.gn (g.gd (g.h0 aJ) (aJ.length:Int)) cb bJ)) (ev:=b_);have n7:(g.hQ ap S aa b4 bY bR (g.gD cA held (g.gn (g.gd (g.h0 aJ) (aJ.length:Int)) cb bJ) b_).1)=aa:=G_;have hE_:g.lB aa aa aP=aP:=G';rw [n7,hE_,show (!decide (aa=aa))=decide (aa≠aa) from by simp];rfl),a⟩
def Y_(l p:Int):M prog 232 #[l,p] [] [] (fun m B=>m=.b (g.xg l p)∧B=[]):=by
 refine M.aM func232 a ntmps232 a fun an=>?_
 refine P qB ?_
 refine P qB ?_
 refine aU ?_ ?_
 refine P qB ?_
 refine P qB ?_
 intros
 refine w.n (U.lG a a aaP) a ?_
 refine I 0 ?_
 refine aF ?_
 exact aO ⟨by simp [ed,g.xg, *],rfl⟩
 refine aF ?_
 intros
 exact aO ⟨by simp [ed,g.xg, *],rfl⟩
def Y9(s:Int):M prog 233 #[s] [] [] (fun m B=>m=.b (g.ut s)∧B=[]):=by
 refine M.aM func233 a ntmps233 a fun an=>?_
 refine aU ?_ ?_
 exact acx
 refine P qB ?_
 exact acx
def auE(cb bJ bR b4 bY b_ cy:Int)(aa ap:Int):M prog 142 #[.agg #[cb,bJ,bR,b4,bY,b_,cy],aa,ap] [] [] (fun m B=>m=.b (g.uu b_ aa ap)∧B=[]):=by
 refine M.aM func142 a ntmps142 a fun an=>?_
 refine P Y_ ?_
 refine aU ?_ ?_
 refine aF ?_
 intros
 exact aO ⟨by simp [ed,g.uu, *],rfl⟩
 refine P Y9 ?_
 intros
 refine w.n (U.lG a a Ri) a ?_
 refine P uE ?_
 refine aF ?_
 exact aO ⟨by simp [ed,g.uu, *],rfl⟩
def aur(cb bJ bR b4 bY b_ cy:Int)(l p:Int):M prog 143 #[.agg #[cb,bJ,bR,b4,bY,b_,cy],l,p] [] [] (fun m B=>m=.b (g.ED cy l p)∧B=[]):=by
 refine M.aM func143 a ntmps143 a fun an=>?_
 refine P Y9 ?_
 refine P Y_ ?_
 refine P auC ?_
 exact cH
def aut(ap cb bJ bR b4 bY b_ cy cA held bm aR gh aa aP:Int)(ae eD:Value)(uj:Value.oneCell' ae=true)(gN:Value.oneCell' eD=true):M prog 59 #[.agg #[ap,cb,bJ,bR,b4,bY,b_,cy,ae,eD,cA,held,bm,aR,gh,aa,aP]] [] [] (fun m B=>m=.b (g.Cf b_ cy aa ap aR bm)∧B=[]):=by
 refine M.aM func59 a ntmps59 a fun an=>?_
 refine I 1 ?_
 intros
 refine K.hW 18 Tryz.bE aN ?_
 refine P auE ?_
 refine P aur ?_
 refine P uE ?_
 exact cH
def TC(br:Value)(f:List Int)(S:f.length≤100000):M prog 310 #[br] [bF br 1 (f.map bH)] [] (fun m B=>m=.b (g.h0 f)∧B=[]):=by
 refine M.aM func310 a ntmps310 a fun an=>?_
 refine aD 1 ?_
 refine de (bo:=Nat×Int) (fun (d,s)=>d≤f.length∧s=g.h0 (f.take d)) (fun (d,s)=>[(3,.b s),(8,.b (d:Int))]) (fun (d,s)=>[]) (fun (d,s)=>f.length-d) ⟨0,0⟩ [2,6,7] ⟨by omega,rfl⟩ ?_
 rintro ⟨d,s⟩ ⟨R,aw⟩
 refine aU ?_ ?_
 refine I 0 ?_
 intros
 obtain ⟨bP,dJ⟩:=c4 (f:=f) (b:=d) E
 refine P rC ?_
 exact ab6
 exact ab'
def H7(s uq:Int):M prog 313 #[s,uq] [] [] (fun m B=>m=.b (if uq > ab.cc s 2147483647 then uq else ab.cc s 2147483647)∧B=[]):=by
 refine M.aM func313 a ntmps313 a fun an=>?_
 refine P lb ?_
 refine I 0 ?_
 refine w.n (U.max a a) a ?_
 exact cH
def aw5(l p:Int)(V:0≤l∧l≤2147483647)(av:0≤p∧p≤2147483647):M prog 350 #[l,p] [] [] (fun m B=>m=.b (if p≤l then 0 else p-l)∧B=[]):=by
 refine M.aM func350 a ntmps350 a fun an=>?_
 refine aU ?_ ?_
 refine aF ?_
 intros
 exact abY
 refine I 1 ?_
 intros
 refine K.lN a (c9 E) ?_
 refine P lb ?_
 refine aF ?_
 exact abY
def TQ(cg O:Int):M prog 311 #[cg,O] [] [] (fun m B=>m=.b (g.xg cg O)∧B=[]):=by
 refine M.aM func311 a ntmps311 a fun an=>?_
 refine P H7 ?_
 refine P H7 ?_
 refine P (aw5 (if 0 > ab.cc cg 2147483647 then 0 else ab.cc cg 2147483647) (if 0 > ab.cc O 2147483647 then 0 else ab.cc O 2147483647) (by have au:=ab.gP cg (dr:=2147483647) bd;(repeat' split)<;>omega) (by have au:=ab.gP O (dr:=2147483647) bd;(repeat' split)<;>omega)) ?_
 refine aF ?_
 exact aO ⟨(by have e4:=ab.gP cg (dr:=2147483647) bd;have dx:=ab.gP O (dr:=2147483647) bd;simp only [ed];congr 1;unfold g.xg;(repeat' split)<;>omega),a⟩
def ahk(cb bJ bR b4 bY b_ cy:Int):M prog 312 #[.agg #[cb,bJ,bR,b4,bY,b_,cy]] [] [] (fun m B=>m=.b (g.ut b_)∧B=[]):=by
 refine M.aM func312 a ntmps312 a fun an=>?_
 refine P H7 ?_
 refine aF ?_
 intros
 exact aO ⟨(by rw [←g.XG];rfl),a⟩
def ahl(cb bJ bR b4 bY b_ cy:Int)(aa ap:Int):M prog 256 #[.agg #[cb,bJ,bR,b4,bY,b_,cy],aa,ap] [] [] (fun m B=>m=.b (g.uu b_ aa ap)∧B=[]):=by
 have:=g.XF (s:=b_)
 refine M.aM func256 a ntmps256 a fun an=>?_
 refine P TQ ?_
 refine aU ?_ ?_
 refine aF ?_
 intros
 exact aO ⟨(by unfold g.uu;first|(rw [ee bO];rfl)|(rw [be bO,←g.Qn E E];rfl)),a⟩
 refine P ahk ?_
 intros
 refine aD 1 ?_
 refine w.f (aq.fs bH [(g.ut b_)-1,g.xg aa ap] gz dt iF a a a aN a a) a ?_
 rintro lv _ rfl
 refine P TC ?_
 refine aF ?_
 exact aO ⟨(by unfold g.uu;first|(rw [ee bO];rfl)|(rw [be bO,←g.Qn Ri Ri];rfl)),a⟩
def ahj(cb bJ bR b4 bY b_ cy:Int)(l p:Int):M prog 257 #[.agg #[cb,bJ,bR,b4,bY,b_,cy],l,p] [] [] (fun m B=>m=.b (g.ED cy l p)∧B=[]):=by
 refine M.aM func257 a ntmps257 a fun an=>?_
 refine P H7 ?_
 refine P TQ ?_
 refine P TB ?_
 refine aF ?_
 intros
 exact aO ⟨(by unfold g.ED;rw [←g.apK,←g.XG];rfl),a⟩
def ahn(br:Value)(f:List Int)(S:f.length≤100000):M prog 255 #[br] [bF br 1 (f.map bH)] [] (fun m B=>m=.b (g.h0 f)∧B=[]):=by
 refine M.aM func255 a ntmps255 a fun an=>?_
 refine P TC ?_
 exact cH
def ahm(cb bJ bR b4 bY b_ cy:Int)(aa ap aR bm:Int):M prog 174 #[.agg #[cb,bJ,bR,b4,bY,b_,cy],aa,ap,aR,bm] [] [] (fun m B=>m=.b (g.Cf b_ cy aa ap aR bm)∧B=[]):=by
 refine M.aM func174 a ntmps174 a fun an=>?_
 refine I 1 ?_
 intros
 refine K.hW 8 Tryz.bE aN ?_
 refine P ahl ?_
 refine P ahj ?_
 refine aD 0 ?_
 refine w.f (aq.fs bH [g.uu b_ aa ap,g.ED cy aR bm] gz dt iF a a a aN a a) a ?_
 rintro wu _ rfl
 refine P ahn ?_
 refine aF ?_
 exact aO ⟨(by unfold g.Cf;rw [←g.Qn g.XI.1 g.XI.2];rfl),a⟩
def ahU(i aG y c f:Nat)(ap bm cb bJ bR b4 bY b_ cy aa aP:Int)(M_ aR held:Int):M prog 74 #[i] [ai i [aG,y,ap,bm,cb,bJ,bR,b4,bY,b_,cy,c,f,aa,aP] 172,ai y [.bool true,M_,aR,held] 296] [] (fun m B=>m=.b (g.Cf b_ cy aa ap aR bm)∧B=[]):=by
 refine M.aM func74 a ntmps74 a fun an=>?_
 refine P Ch ?_
 refine I 0 ?_
 refine K.hW 20 Tryz.bE aN ?_
 refine P MW ?_
 refine P ahm ?_
 exact cH
def aqK(h:g.b3)(x bS aY bb:Int):M prog 28 #[h.s] [ai h.s (g.io h x bS aY bb) 90] [] (fun m B=>m=.b x∧B=[]):=by
 refine M.aM func28 a ntmps28 a fun an=>?_
 refine P AZ ?_
 exact cH
def aqW(h:g.b3)(x bS aY bb:Int):M prog 29 #[h.s] [ai h.s (g.io h x bS aY bb) 90] [] (fun m B=>m=.b bS∧B=[]):=by
 refine M.aM func29 a ntmps29 a fun an=>?_
 refine P AZ ?_
 exact cH
def ah7(h:g.b3)(d:g.dM):M prog 74 #[h.i] [iH h d] [] (fun m B=>m=.b (g.Cf d.b_ d.cy d.aa h.ap d.aR h.bm)∧B=[]):=(ahU h.i h.aG h.y h.c h.f h.ap h.bm d.cb d.bJ d.bR d.b4 d.bY d.b_ d.cy d.aa d.aP h.bm d.aR d.gh).vF (.at 0 rfl (.at 2 rfl .nil))
def aqG(h:g.b3)(x bS aY bb:Int)(d:g.dM):M prog 30 #[h.s] [ai h.s (g.io h x bS aY bb) 90,iH h d] [] (fun m B=>m=.b (g.Cf d.b_ d.cy d.aa h.ap d.aR h.bm)∧B=[]):=by
 refine M.aM func30 a ntmps30 a fun an=>?_
 refine P JD ?_
 refine P ah7 ?_
 exact cH
def Gc(g':Value)(t:List cR)(O:Int)(bh:t.length≤1000):M prog 244 #[g',O] [bF g' 4 (t.map cR.cells)] [] (fun m B=>m=.b (ab.qU t O)∧B=[]):=by
 refine M.aM func244 a ntmps244 a fun an=>?_
 refine I 0 ?_
 refine de (bo:=Nat) (fun d=>d≤t.length∧∀ (k:Nat) (e:cR),k < d→t[k]?=some e→¬e.O=O) (fun d=>[(5,.b (d:Int))]) (fun d=>[]) (fun d=>t.length-d) 0 [0,1] ⟨by omega,fun k e c=>absurd c (ts k)⟩ ?_
 rintro d ⟨R,dy⟩
 refine aU ?_ ?_
 refine I 0 ?_
 intros
 obtain ⟨bP,dJ⟩:=c4 (f:=t) (b:=d) E
 refine aU ?_ ?_
 refine aF ?_
 intros
 exact aO ⟨(by rw [ab.ai5 dy dJ bO];rfl),a⟩
 refine I 1 ?_
 intros
 exact da (d+1) ⟨by omega,fun k e ag Q=>by rcases mR k d with au|au;(· exact dy k e au Q);(· have dx:k=d:=E;subst dx;rw [dJ] at Q;cases Q;assumption)⟩
 refine aF ?_
 intros
 exact aO ⟨(by rw [ab.EM fun k e Q=>dy k e (by have au:=(dD.1 Q).1;omega) Q];rfl),a⟩
def Yi(g':Value)(t:List cR)(bD x:Int)(bh:t.length≤1000):M prog 64 #[g',bD,x] [bF g' 4 (t.map cR.cells)] [] (fun m B=>B=[row m 175 4 ((t.filter (ab.kr bD x)).map cR.cells)]):=by
 refine M.aM func64 a ntmps64 a fun an=>K.fC 14 a<|K.lC 175 4 ?_
 refine de (bo:=Nat×Value×List cR) (fun (d,X,v)=>d≤t.length∧v=ab.x0 t bD x d∧v.length≤d) (fun (d,X,v)=>[(7,X),(8,.b (d:Int))]) (fun (d,X,v)=>[row X 175 4 (v.map cR.cells)]) (fun (d,X,v)=>t.length-d) ⟨0,Value.slice none 0 0,([]:List cR)⟩ [0,1,2,6] ⟨by omega,rfl,by simp⟩ ?_
 rintro ⟨d,X,v⟩ ⟨R,bw,q6⟩
 refine aU ?_ ?_
 refine I 0 ?_
 intros
 obtain ⟨bP,dJ⟩:=c4 (f:=t) (b:=d) E
 refine P Ke ?_
 refine aU ?_ ?_
 refine aD 2 ?_
 intros
 refine w.f (aq.fs cR.cells [bP] nr hV ns a a a aN a a) a ?_
 rintro lv _ rfl
 refine aD 2 ?_
 intro pB
 exact da ⟨d+1,pB,v++([bP])⟩ ⟨by omega,aa0,hq⟩
 refine I 1 ?_
 intros
 exact da ⟨d+1,X,v⟩ ⟨by omega,aa0,E⟩
 refine aF ?_
 intros
 exact aO (dz (fun (Bq:List cR)=>([row X 175 4 (Bq.map cR.cells)]:List aB)) (show v=t.filter (ab.kr bD x) from (by rw [bw,ab.agn E])))
def atb(g':Value)(y:ab.ht)(O aa aP x:Int)(ac:ab.oY y):M prog 162 #[g',O,aa,aP,x] [] [row g' 175 4 ((ab.row y).map cR.cells)] (fun m B=>∃ eJ,m=.tuple #[eJ,.bool (ab.fA y O aa aP x).2]∧B=[row eJ 175 4 ((ab.row (ab.fA y O aa aP x).1).map cR.cells)]):=by
 have Wl:=ab.Kd y
 refine M.aM func162 a ntmps162 a fun an=>K.eV 11 a ?_
 refine w.qC 19 a (fun eC=>?_) (fun eC=>?_)
 refine w.dw 11 a ?_
 exact adS
 refine w.dw 4 a ?_
 refine K.jt a (fun fp=>?_) (fun fp=>?_)
 refine K.fC 6 a ?_
 exact adS
 refine K.fC 2 a ?_
 obtain ⟨iD,rfl⟩:∃ iD:Nat,O=(iD:Int):=⟨O.toNat,by omega⟩
 refine K.eV 5 a ?_
 refine w.f (aq.fl call234 (xc x) [] a a .nil) a ?_
 rintro _ _ ⟨_,⟨rfl,rfl⟩,rfl⟩
 refine w.n (U.build [(0,.b (iD:Int)),(1,.b aa),(2,.b aP),(3,.b (ab.h1 x))] [.b (iD:Int),aa,aP,.b (ab.h1 x)] #[(0,1),(1,1),(2,1),(3,1)] zC ns (Dc uW) a aN) a ?_
 refine w.f (aq.iS ns a) a ?_
 rintro _ _ ⟨mG,rfl,rfl⟩
 refine w.cq (aq.dC 0 hV a a a a a a a) ?_
 rintro _ _ rfl
 refine w.e1 5 a ?_
 refine w.f (aq.fl call244 (Gc g' (ab.row y) (iD:Int) E) [] a a (.eo 1 jz a a .nil)) a ?_
 rintro _ _ ⟨_,⟨rfl,rfl⟩,rfl⟩
 refine w.dw 4 a ?_
 rcases ab.Ij (k:=iD) ac E with ⟨Fe,N6⟩|⟨aAO,b',Fe,q7,N6⟩
 rw [Fe]
 refine K.fC 42 a<|K.lC 175 4 ?_
 refine K.gw (bo:=Nat×Value×List cR) (fun (s,X,v)=>s≤8∧v=ab.iA (ab.h5 y (iD:Int) (⟨(iD:Int),aa,aP,ab.h1 x⟩:cR)) s∧v.length≤s) (fun (s,X,v)=>[(14,X),(15,.b (s:Int))]) (fun (s,X,v)=>[row X 175 4 (v.map cR.cells)]) (fun (s,X,v)=>8-s) ⟨0,Value.slice none 0 0,([]:List cR)⟩ [0,1,10,11,12] [0] [2,1] ⟨by omega,rfl,by simp⟩ ⟨a,(hM E),trivial⟩ a a ?_
 rintro ⟨s,X,v⟩ ⟨aw,bw,q6⟩
 refine K.fC 6 a ?_
 refine K.jt a (fun iW=>?_) (fun iW=>?_)
 refine K.eV 7 a ?_
 refine w.f (aq.fl call244 (Gc g' (ab.row y) (s:Int) E) [] a a (.eo 1 jz a a .nil)) a ?_
 rintro _ _ ⟨_,⟨rfl,rfl⟩,rfl⟩
 refine w.dw 3 a ?_
 rcases ab.Ij (k:=s) ac E with ⟨uc,Ak⟩|⟨Wx,oO,uc,wW,Ak⟩
 rw [uc]
 refine K.fC 5 a ?_
 refine K.jt a (fun kM=>?_) (fun kM=>?_)
 refine K.eV 2 a<|w.A (aV.nG 2 nU hV a a a) a ?_
 refine w.f (aq.fs cR.cells [(⟨(iD:Int),aa,aP,ab.h1 x⟩:cR)] nr hV ns a a a aN a a) a ?_
 rintro k' _ rfl
 refine w.f (aq.gg 1 tG q8 a a a a a (ax.row 0 a) cR.one oT oT) a ?_
 rintro pz _ rfl
 refine w.e1 5 a<|w.n (U.hJ a a E) a<|w.dw 2 a ?_
 exact K.ms ⟨s+1,pz,v++([(⟨(iD:Int),aa,aP,ab.h1 x⟩:cR)])⟩ [0,1,10,11,12] [1] [2,3] ⟨by omega,DW,hq⟩ kR ⟨a,(hM E),trivial⟩ a a
 exact RT
 rw [uc]
 refine K.fC 5 a ?_
 refine K.jt a (fun qy=>?_) (fun qy=>?_)
 refine K.eV 2 a<|w.A (aV.nG 2 nU hV a a a) a ?_
 refine w.f (aq.fs cR.cells [(⟨(iD:Int),aa,aP,ab.h1 x⟩:cR)] nr hV ns a a a aN a a) a ?_
 rintro mX _ rfl
 refine w.f (aq.gg 1 tG q8 a a a a a (ax.row 0 a) cR.one oT oT) a ?_
 rintro hc _ rfl
 refine w.e1 5 a<|w.n (U.hJ a a E) a<|w.dw 2 a ?_
 exact K.ms ⟨s+1,hc,v++([(⟨(iD:Int),aa,aP,ab.h1 x⟩:cR)])⟩ [0,1,10,11,12] [1] [2,3] ⟨by omega,DW,hq⟩ kR ⟨a,(hM E),trivial⟩ a a
 refine K.fC 5 a<|K.lN a (c9 E)<|K.eV 4 a<|w.A (aV.jy nr hV a (ax.row 1 a) wW a kf) a<|w.A (aV.lX nU hV (ax.row 1 a) wW 0 a E a) a ?_
 refine w.f (aq.fs cR.cells [oO] nr hV ns a a a aN a a) a ?_
 rintro pA _ rfl
 refine w.f (aq.gg 1 tG q8 a a a a a (ax.row 0 a) cR.one oT oT) a ?_
 rintro wt _ rfl
 refine w.e1 5 a<|w.n (U.hJ a a E) a<|w.dw 2 a ?_
 exact K.ms ⟨s+1,wt,v++([oO])⟩ [0,1,10,11,12] [1] [2,3] ⟨by omega,Rc,hq⟩ kR ⟨a,(hM E),trivial⟩ a a
 refine K.fC 7 a ?_
 exact K.lE [_,_] [0] a ⟨a,a,trivial⟩ a ⟨X,(by rw [ab.Ji (O:=(iD:Int)) (ab.ub.2 E) zg];rfl),(by rw [ab.Ji (O:=(iD:Int)) (ab.ub.2 E) zg];exact dz (fun (Bq:List cR)=>([row X 175 4 (Bq.map cR.cells)]:List aB)) (show v=ab.iA (ab.h5 y (iD:Int) (⟨(iD:Int),aa,aP,ab.h1 x⟩:cR)) 8 from Rj))⟩
 rw [Fe]
 refine K.eV 4 a<|w.od 35 a (c9 E)<|w.e1 2 a<|w.el (aV.jy nr hV a (ax.row 1 a) q7 a kf) a a<|w.e1 1 a<|w.el (aV.le ds (ax.row 1 a) q7 2 a E a) a a<|w.dw 4 a ?_
 refine K.jt a (fun FV=>?_) (fun FV=>?_)
 refine K.fC 6 a ?_
 exact K.lE [_,_] [1] a ⟨a,a,trivial⟩ a ⟨g',(by rw [ab.Jg zg E];rfl),(by rw [ab.Jg zg E])⟩
 refine K.eV 7 a<|w.od 47 a (c9 E)<|w.e1 2 a<|w.el (aV.jy nr hV a (ax.row 1 a) q7 a kf) a a<|w.e1 1 a<|w.el (aV.le ds (ax.row 1 a) q7 2 a E a) a a<|w.dw 4 a ?_
 refine K.jt a (fun FW=>?_) (fun FW=>?_)
 refine K.eV 3 a<|w.A (aV.jy nr hV a (ax.row 1 a) q7 a kf) a<|w.e1 1 a<|w.A (aV.le ds (ax.row 1 a) q7 1 a E a) a<|w.e1 1 a ?_
 refine w.cq (aq.dC 0 dt a a a a a a a) ?_
 rintro _ _ rfl
 refine w.dw 11 a<|K.lC 175 4 ?_
 refine K.gw (bo:=Nat×Value×List cR) (fun (s,X,v)=>s≤8∧v=ab.iA (ab.h5 y (iD:Int) (⟨(iD:Int),b'.aa,aP,ab.h1 x⟩:cR)) s∧v.length≤s) (fun (s,X,v)=>[(14,X),(15,.b (s:Int))]) (fun (s,X,v)=>[row X 175 4 (v.map cR.cells)]) (fun (s,X,v)=>8-s) ⟨0,Value.slice none 0 0,([]:List cR)⟩ [0,1,10,11,12] [0] [2,1] ⟨by omega,rfl,by simp⟩ ⟨a,(hM E),trivial⟩ a a ?_
 rintro ⟨s,X,v⟩ ⟨aw,bw,q6⟩
 refine K.fC 6 a ?_
 refine K.jt a (fun Db=>?_) (fun Db=>?_)
 refine K.eV 7 a ?_
 refine w.f (aq.fl call244 (Gc g' (ab.row y) (s:Int) E) [] a a (.eo 1 jz a a .nil)) a ?_
 rintro _ _ ⟨_,⟨rfl,rfl⟩,rfl⟩
 refine w.dw 3 a ?_
 rcases ab.Ij (k:=s) ac E with ⟨uc,Ak⟩|⟨Wx,oO,uc,wW,Ak⟩
 rw [uc]
 refine K.fC 5 a ?_
 refine K.jt a (fun JM=>?_) (fun JM=>?_)
 refine K.eV 2 a<|w.A (aV.nG 2 nU hV a a a) a ?_
 refine w.f (aq.fs cR.cells [(⟨(iD:Int),b'.aa,aP,ab.h1 x⟩:cR)] nr hV ns a a a aN a a) a ?_
 rintro aes _ rfl
 refine w.f (aq.gg 1 tG q8 a a a a a (ax.row 0 a) cR.one oT oT) a ?_
 rintro zH _ rfl
 refine w.e1 5 a<|w.n (U.hJ a a E) a<|w.dw 2 a ?_
 exact K.ms ⟨s+1,zH,v++([(⟨(iD:Int),b'.aa,aP,ab.h1 x⟩:cR)])⟩ [0,1,10,11,12] [1] [2,3] ⟨by omega,DW,hq⟩ kR ⟨a,(hM E),trivial⟩ a a
 exact RT
 rw [uc]
 refine K.fC 5 a ?_
 refine K.jt a (fun qz=>?_) (fun qz=>?_)
 refine K.eV 2 a<|w.A (aV.nG 2 nU hV a a a) a ?_
 refine w.f (aq.fs cR.cells [(⟨(iD:Int),b'.aa,aP,ab.h1 x⟩:cR)] nr hV ns a a a aN a a) a ?_
 rintro Mr _ rfl
 refine w.f (aq.gg 1 tG q8 a a a a a (ax.row 0 a) cR.one oT oT) a ?_
 rintro Ms _ rfl
 refine w.e1 5 a<|w.n (U.hJ a a E) a<|w.dw 2 a ?_
 exact K.ms ⟨s+1,Ms,v++([(⟨(iD:Int),b'.aa,aP,ab.h1 x⟩:cR)])⟩ [0,1,10,11,12] [1] [2,3] ⟨by omega,DW,hq⟩ kR ⟨a,(hM E),trivial⟩ a a
 refine K.fC 5 a<|K.lN a (c9 E)<|K.eV 4 a<|w.A (aV.jy nr hV a (ax.row 1 a) wW a kf) a<|w.A (aV.lX nU hV (ax.row 1 a) wW 0 a E a) a ?_
 refine w.f (aq.fs cR.cells [oO] nr hV ns a a a aN a a) a ?_
 rintro Mt _ rfl
 refine w.f (aq.gg 1 tG q8 a a a a a (ax.row 0 a) cR.one oT oT) a ?_
 rintro Mu _ rfl
 refine w.e1 5 a<|w.n (U.hJ a a E) a<|w.dw 2 a ?_
 exact K.ms ⟨s+1,Mu,v++([oO])⟩ [0,1,10,11,12] [1] [2,3] ⟨by omega,Rc,hq⟩ kR ⟨a,(hM E),trivial⟩ a a
 refine K.fC 7 a ?_
 exact K.lE [_,_] [0] a ⟨a,a,trivial⟩ a ⟨X,(by rw [ab.Jk (O:=(iD:Int)) (ab.ub.2 E) zg E];rfl),(by rw [ab.Jk (O:=(iD:Int)) (ab.ub.2 E) zg E,ac iD b' E N6,show b'.aP=aP from E];exact dz (fun (Bq:List cR)=>([row X 175 4 (Bq.map cR.cells)]:List aB)) (show v=ab.iA (ab.h5 y (iD:Int) (⟨(iD:Int),b'.aa,aP,ab.h1 x⟩:cR)) 8 from Rj))⟩
 refine K.fC 11 a<|K.lC 175 4 ?_
 refine K.gw (bo:=Nat×Value×List cR) (fun (s,X,v)=>s≤8∧v=ab.iA (ab.h5 y (iD:Int) (⟨(iD:Int),aa,aP,ab.h1 x⟩:cR)) s∧v.length≤s) (fun (s,X,v)=>[(14,X),(15,.b (s:Int))]) (fun (s,X,v)=>[row X 175 4 (v.map cR.cells)]) (fun (s,X,v)=>8-s) ⟨0,Value.slice none 0 0,([]:List cR)⟩ [0,1,10,11,12] [0] [2,1] ⟨by omega,rfl,by simp⟩ ⟨a,(hM E),trivial⟩ a a ?_
 rintro ⟨s,X,v⟩ ⟨aw,bw,q6⟩
 refine K.fC 6 a ?_
 refine K.jt a (fun w9=>?_) (fun w9=>?_)
 refine K.eV 7 a ?_
 refine w.f (aq.fl call244 (Gc g' (ab.row y) (s:Int) E) [] a a (.eo 1 jz a a .nil)) a ?_
 rintro _ _ ⟨_,⟨rfl,rfl⟩,rfl⟩
 refine w.dw 3 a ?_
 rcases ab.Ij (k:=s) ac E with ⟨uc,Ak⟩|⟨Wx,oO,uc,wW,Ak⟩
 rw [uc]
 refine K.fC 5 a ?_
 refine K.jt a (fun arH=>?_) (fun arH=>?_)
 refine K.eV 2 a<|w.A (aV.nG 2 nU hV a a a) a ?_
 refine w.f (aq.fs cR.cells [(⟨(iD:Int),aa,aP,ab.h1 x⟩:cR)] nr hV ns a a a aN a a) a ?_
 rintro aet _ rfl
 refine w.f (aq.gg 1 tG q8 a a a a a (ax.row 0 a) cR.one oT oT) a ?_
 rintro aeu _ rfl
 refine w.e1 5 a<|w.n (U.hJ a a E) a<|w.dw 2 a ?_
 exact K.ms ⟨s+1,aeu,v++([(⟨(iD:Int),aa,aP,ab.h1 x⟩:cR)])⟩ [0,1,10,11,12] [1] [2,3] ⟨by omega,DW,hq⟩ kR ⟨a,(hM E),trivial⟩ a a
 exact RT
 rw [uc]
 refine K.fC 5 a ?_
 refine K.jt a (fun uv=>?_) (fun uv=>?_)
 refine K.eV 2 a<|w.A (aV.nG 2 nU hV a a a) a ?_
 refine w.f (aq.fs cR.cells [(⟨(iD:Int),aa,aP,ab.h1 x⟩:cR)] nr hV ns a a a aN a a) a ?_
 rintro axV _ rfl
 refine w.f (aq.gg 1 tG q8 a a a a a (ax.row 0 a) cR.one oT oT) a ?_
 rintro aev _ rfl
 refine w.e1 5 a<|w.n (U.hJ a a E) a<|w.dw 2 a ?_
 exact K.ms ⟨s+1,aev,v++([(⟨(iD:Int),aa,aP,ab.h1 x⟩:cR)])⟩ [0,1,10,11,12] [1] [2,3] ⟨by omega,DW,hq⟩ kR ⟨a,(hM E),trivial⟩ a a
 refine K.fC 5 a<|K.lN a (c9 E)<|K.eV 4 a<|w.A (aV.jy nr hV a (ax.row 1 a) wW a kf) a<|w.A (aV.lX nU hV (ax.row 1 a) wW 0 a E a) a ?_
 refine w.f (aq.fs cR.cells [oO] nr hV ns a a a aN a a) a ?_
 rintro aew _ rfl
 refine w.f (aq.gg 1 tG q8 a a a a a (ax.row 0 a) cR.one oT oT) a ?_
 rintro S7 _ rfl
 refine w.e1 5 a<|w.n (U.hJ a a E) a<|w.dw 2 a ?_
 exact K.ms ⟨s+1,S7,v++([oO])⟩ [0,1,10,11,12] [1] [2,3] ⟨by omega,Rc,hq⟩ kR ⟨a,(hM E),trivial⟩ a a
 refine K.fC 7 a ?_
 exact K.lE [_,_] [0] a ⟨a,a,trivial⟩ a ⟨X,(by rw [ab.Jh (O:=(iD:Int)) (ab.ub.2 E) zg E];rfl),(by rw [ab.Jh (O:=(iD:Int)) (ab.ub.2 E) zg E];exact dz (fun (Bq:List cR)=>([row X 175 4 (Bq.map cR.cells)]:List aB)) (show v=ab.iA (ab.h5 y (iD:Int) (⟨(iD:Int),aa,aP,ab.h1 x⟩:cR)) 8 from Rj))⟩
def Yj(g':Value)(y:ab.ht)(bD O s x:Int)(ac:ab.oY y):M prog 305 #[g',bD,O,s,x] [bF g' 4 ((ab.row y).map cR.cells)] [] (fun m B=>m=.bool (g.fI y bD O s x)∧B=[]):=by
 have:=ab.Kd y
 have:=kv (ab.kr bD x) (ab.row y)
 refine M.aM func305 a ntmps305 a fun an=>?_
 refine I 0 ?_
 refine w.f (aq.fl call64 (Yi g' (ab.row y) bD x aaG) [] a a (.b0 0 a .nil)) a ?_
 rintro ti _ ⟨_,rfl,rfl⟩
 refine P (Gc ti (ab.all y bD x) O aaG) ?_
 refine I 0 ?_
 rcases ab.ajE (bD:=bD) (x:=x) (O:=O) ac with ⟨bc,bq⟩|⟨eb,aBn,bc,aAI,bq⟩
 rw [bc]
 exact Sb
 rw [bc]
 refine I 0 ?_
 refine w.od 22 a (c9 E) ?_
 refine aU (fun e_=>?_) (fun e_=>?_)
 exact Sb
 exact Sb
def Y8(i:cG)(aR dN x a1 bD:Int)(g':Value)(y:ab.ht)(wU:Value.oneCell' g'=true)(ac:ab.oY y):M prog 241 #[.agg #[i.O,i.aR,i.jr,i.dr],.agg #[aR,dN,x,a1,bD,g']] [bF g' 4 ((ab.row y).map cR.cells)] [] (fun m B=>m=.agg #[.b ((g.fX i aR dN x a1 (g.fI y bD i.O dN x)).O),.b ((g.fX i aR dN x a1 (g.fI y bD i.O dN x)).code),.b ((g.fX i aR dN x a1 (g.fI y bD i.O dN x)).a1),.b ((g.fX i aR dN x a1 (g.fI y bD i.O dN x)).bM),.bool ((g.fX i aR dN x a1 (g.fI y bD i.O dN x)).nK)]∧B=[]):=by
 refine M.aM func241 a ntmps241 a fun an=>?_
 refine P aus ?_
 refine aD 1 ?_
 intros
 refine aU (fun iW=>?_) (fun iW=>?_)
 refine aU ?_ ?_
 refine aF ?_
 intros
 exact BE
 refine I 0 ?_
 intros
 refine K.cond a (fun dL=>?_) (fun dL=>?_)
 have h2:((g.oB x a1 i.jr i.dr).2.2)=false:=c_ dL
 refine aF ?_
 exact BE
 have hN:((g.oB x a1 i.jr i.dr).2.2)=true:=c_ dL
 refine P Yj ?_
 refine I 0 ?_
 refine K.cond a (fun nc=>?_) (fun nc=>?_)
 refine aF ?_
 exact BE
 refine aF ?_
 exact BE
 refine I 0 ?_
 refine K.cond a (fun qn=>?_) (fun qn=>?_)
 have qX:((g.oB x a1 i.jr i.dr).2.2)=false:=c_ qn
 refine aF ?_
 exact BE
 have yh:((g.oB x a1 i.jr i.dr).2.2)=true:=c_ qn
 refine P Yj ?_
 refine I 0 ?_
 refine K.cond a (fun sI=>?_) (fun sI=>?_)
 refine aF ?_
 exact BE
 refine aF ?_
 exact BE
def auG(dA:Value)(cW:List cG)(aR dN x a1 bD:Int)(g':Value)(y:ab.ht)(Aj:Value.oneCell' dA=true)(wU:Value.oneCell' g'=true)(ac:ab.oY y)(S:cW.length≤100):M prog 157 #[dA,.agg #[aR,dN,x,a1,bD,g']] [bF dA 4 (cW.map cG.cells),bF g' 4 ((ab.row y).map cR.cells)] [] (fun m B=>∃ X,m=.agg #[.b (g.mw (fun i=>g.fX i aR dN x a1 (g.fI y bD i.O dN x)) cW).1,X]∧B=[row X 241 5 ((g.mw (fun i=>g.fX i aR dN x a1 (g.fI y bD i.O dN x)) cW).2.map gM.cells)]):=by
 refine M.aM func157 a ntmps157 a fun an=>K.eV 2 a ?_
 refine w.f (aq.pF a a) a ?_
 rintro _ _ ⟨b9,rfl,rfl⟩
 refine w.f (aq.iS zK a) a ?_
 rintro _ _ ⟨cS,rfl,rfl⟩
 refine w.e1 3 a ?_
 refine w.f (aq.iS zK a) a ?_
 rintro _ _ ⟨dE,rfl,rfl⟩
 refine w.dw 3 a<|K.fg 241 5 (([]:List gM).map gM.cells) a ?_
 refine I 0 ?_
 refine K.gw (bo:=Nat×Value×List gM) (fun (d,X,ss)=>d≤cW.length∧g.tH (fun i=>g.fX i aR dN x a1 (g.fI y bD i.O dN x)) cW d∧ss=(cW.take d).map (fun i=>g.fX i aR dN x a1 (g.fI y bD i.O dN x))) (fun (d,X,ss)=>[(6,.b (d:Int))]) (fun (d,X,ss)=>[ai dE [.b 0,X] 236,row X 241 5 (ss.map gM.cells)]) (fun (d,X,ss)=>cW.length-d) ⟨0,Value.slice none 0 0,[]⟩ [0,3,4,5] [1,0] [3,2] ⟨by omega,g.tH.zero,rfl⟩ ⟨(hM E),trivial⟩ a a ?_
 rintro ⟨d,X,ss⟩ ⟨R,ko,hss⟩
 refine aU ?_ ?_
 refine I 0 ?_
 intros
 refine K.kD Tryz.bE ?_
 refine ar.gV 5 6 a ?_ ?_
 refine ar.fH (df [(0,5),(6,0),(5,0),(7,0)]) [2] aN a ?_
 refine aD 0 ?_
 obtain ⟨dZ,ji⟩:=c4 (f:=cW) (b:=d) E
 refine P Y8 ?_
 intro sF
 refine aD 4 ?_
 refine w.fz 22 a (fun dL=>?_) (fun dL=>?_)
 refine aU ?_ ?_
 intros
 refine K.eV 3 a<|w.A (aV.br 0 ds a a a) a ?_
 refine aD 1 ?_
 refine w.cq (aq.dC 4 B6 a a a a a a a) ?_
 rintro _ _ rfl
 refine w.nil<|K.fg 241 5 (([]:List gM).map gM.cells) a ?_
 refine aF ?_
 exact aO (by (try dsimp only);rw [g.PL ko ji mT];exact ⟨_,rfl,rfl⟩)
 refine I 2 ?_
 intros
 refine w.f (aq.fs gM.cells [g.fX dZ aR dN x a1 (g.fI y bD dZ.O dN x)] zE zM xW a a a aN a a) a ?_
 rintro pz _ rfl
 refine w.f (aq.gg 3 BN CW a a a a a (ax.row 0 a) gM.one tw tw) a ?_
 rintro qg _ rfl
 refine I 0 ?_
 refine w.one (ax.row 3 a) (fun t_=>?_)
 refine w.cq (aq.gy 2 B5 t_ a a a a) ?_
 rintro _ _ rfl
 refine I 1 ?_
 exact da ⟨d+1,qg,ss++([g.fX dZ aR dN x a1 (g.fI y bD dZ.O dN x)])⟩ ⟨by omega,ko.next ji mT,Ru⟩
 refine I 2 ?_
 refine w.f (aq.fs gM.cells [g.fX dZ aR dN x a1 (g.fI y bD dZ.O dN x)] zE zM xW a a a aN a a) a ?_
 rintro hc _ rfl
 refine w.f (aq.gg 3 BN CW a a a a a (ax.row 0 a) gM.one tw tw) a ?_
 rintro pA _ rfl
 refine I 0 ?_
 refine w.one (ax.row 3 a) (fun Cv=>?_)
 refine w.cq (aq.gy 2 B5 Cv a a a a) ?_
 rintro _ _ rfl
 refine I 1 ?_
 exact da ⟨d+1,pA,ss++([g.fX dZ aR dN x a1 (g.fI y bD dZ.O dN x)])⟩ ⟨by omega,ko.next ji mT,Ru⟩
 refine ar.fH (df [(0,5),(5,0),(6,0),(7,0)]) [2] aN a<|aL.Z 2 a ?_
 obtain ⟨sC,yo⟩:=c4 (f:=cW) (b:=d) E
 refine P Y8 ?_
 refine aD 6 ?_
 intro Im
 refine w.fz 22 a (fun Cr=>?_) (fun Cr=>?_)
 refine aU ?_ ?_
 intros
 refine K.eV 3 a<|w.A (aV.br 0 ds a a a) a ?_
 refine aD 1 ?_
 refine w.cq (aq.dC 4 B6 a a a a a a a) ?_
 rintro _ _ rfl
 refine w.nil<|K.fg 241 5 (([]:List gM).map gM.cells) a ?_
 refine aF ?_
 exact aO (by (try dsimp only);rw [g.PL ko yo mT];exact ⟨_,rfl,rfl⟩)
 refine I 2 ?_
 intros
 refine w.f (aq.fs gM.cells [g.fX sC aR dN x a1 (g.fI y bD sC.O dN x)] zE zM xW a a a aN a a) a ?_
 rintro aes _ rfl
 refine w.f (aq.gg 3 BN CW a a a a a (ax.row 0 a) gM.one tw tw) a ?_
 rintro zH _ rfl
 refine I 0 ?_
 refine w.one (ax.row 3 a) (fun Vt=>?_)
 refine w.cq (aq.gy 2 B5 Vt a a a a) ?_
 rintro _ _ rfl
 refine I 1 ?_
 exact da ⟨d+1,zH,ss++([g.fX sC aR dN x a1 (g.fI y bD sC.O dN x)])⟩ ⟨by omega,ko.next yo mT,abl⟩
 refine I 2 ?_
 refine w.f (aq.fs gM.cells [g.fX sC aR dN x a1 (g.fI y bD sC.O dN x)] zE zM xW a a a aN a a) a ?_
 rintro Mr _ rfl
 refine w.f (aq.gg 3 BN CW a a a a a (ax.row 0 a) gM.one tw tw) a ?_
 rintro Ms _ rfl
 refine I 0 ?_
 refine w.one (ax.row 3 a) (fun aj0=>?_)
 refine w.cq (aq.gy 2 B5 aj0 a a a a) ?_
 rintro _ _ rfl
 refine I 1 ?_
 exact da ⟨d+1,Ms,ss++([g.fX sC aR dN x a1 (g.fI y bD sC.O dN x)])⟩ ⟨by omega,ko.next yo mT,abl⟩
 refine I 1 ?_
 intros
 refine w.one (ax.row 1 a) (fun azM=>?_)
 refine aF ?_
 exact aO aaR
end Go.Proofs.YtohjlkjhpibkmaaGreatDoor
namespace Go.LK
open Go Go.RowKit
structure qO (o:Program) (d:Nat) (Y:TypeId) (s:Nat):Prop where
  eq:∀ (j:World) (y:Nat) (f:List Int),f.length=s→(Op.equalIn (y+d) Y (.agg (kJ f).toArray) (.agg (kJ f).toArray)).run o j=.ok true j
  agg:∀ j,(isAgg Y).run o j=.ok true j
  size:∀ j,(sizeOf Y).run o j=.ok s j
def Ho(o:Program)(d s:Nat):Nat→List Field→Prop
  | b,[]=>b=s
  | b, z :: aH => z.offset = b ∧ (z.name == "_") = false ∧ ((o.underlying z.type = some (.int .i64) ∧ b < s ∧ Ho o d s (b + 1) aH) ∨ ∃ t, qO o (d + 1) z.type t ∧ b + t ≤ s ∧ Ho o d s (b + t) aH)
def P6{o:Program}{j:World}{d s y:Nat}(f:List Int)(S:f.length=s):∀ (aH:List Field) (b:Nat),Ho o d s b aH→(Op.eqFields (y+(d+1)) (kJ f).toArray (kJ f).toArray aH).run o j=.ok true j
  | [],b,_=>by simp [Op.eqFields]
  | z :: aH,b,c=>by
    obtain ⟨bw,aw,c⟩:=c
    have mK : ¬ z.name = "_" := by simpa using aw
    rcases c with ⟨bp,ac,c⟩|⟨t,W,bh,c⟩
    · have b6:=P6 (o:=o) (j:=j) (y:=y) f S aH (b+1) c
      have qp:∀ j,(isAgg z.type).run o j=.ok false j:=fun j=>by simp [isAgg,jf bp]
      have yS:(part z.type (kJ f).toArray z.offset).run o j=.ok (.b (f[b]' E)) j:=by
        have sP:b < f.length:=by omega
        simp [part,qp,bw,kJ,sP]
      have aC:=run_equalIn_int j (y+d) z.type .i64 .i64 (f[b]' E) (f[b]' E) bp
      simp only [Op.eqFields,ee mK,nn,yS,k7,Le]
      rw [show y+(d+1)=y+d+1 from rfl,aC]
      simp;exact b6
    · have b6:=P6 (o:=o) (j:=j) (y:=y) f S aH (b+t) c
      have yS:(part z.type (kJ f).toArray z.offset).run o j=.ok (.agg (kJ ((f.drop b).take t)).toArray) j:=by
        simp [part,W.agg,bw,W.size,kJ]
      have aC:=W.eq j y ((f.drop b).take t) (by rw [ib,hw];omega)
      simp only [Op.eqFields,ee mK,nn,yS,k7,Le,aC]
      simp;exact b6
def qO.eo{o:Program}{d s:Nat}{Y:TypeId}{aH:Array Field}(cF:o.underlying Y=some (.struct aH))(ad:o.stoodInHeld Y=false)(ce:∀ j,(sizeOf Y).run o j=.ok s j)(bc:Ho o d s 0 aH.toList):qO o (d+2) Y s :=
  ⟨fun j y f S=>by
    have G:o.fieldsOf Y=aH:=by simp [Program.fieldsOf,cF]
    rw [show y+(d+2)=y+(d+1)+1 from rfl,run_equalIn_struct j (y+(d+1)) Y _ _ (by rw [G];exact cF) ad,G]
    exact P6 f S _ 0 bc,fun j=>by simp [isAgg,jf cF],ce⟩
section
variable {i:cM} {D:bW} {e F:Operand} {Y aX:TypeId}
def U.apR{d s:Nat}(f:List Int)(c:qO i.o d Y s)(bq:i.o.eqGuardType i.o.depth Y=false)(R:d≤10000)(S:f.length=s)
    (Q:aT D e=some (.agg (kJ f).toArray)) (az:aT D F=some (.agg (kJ f).toArray)):U i D (.binOp .neq Y e F Y) aX (.bool false):=fun l j V _ _ _ _=>by
  have aC:(Op.equalIn 10000 Y (.agg (kJ f).toArray) (.agg (kJ f).toArray)).run i.o j=.ok true j:=by
    have:=c.eq j (10000-d) f S
    rwa [show 10000-d+d=10000 from by omega] at this
  simp only [execOp,V.aT Q,V.aT az,nn,run_eqGuard_agg j .neq Y e F _ _ bq,k7,run_neq_struct,aC,se]
  rfl
end
end Go.LK
namespace Go.Proofs.YtohjlkjhpibkmaaGreatDoor
open Go Go.LK Go.Proofs.Tryz
set_option maxRecDepth 100000
set_option maxHeartbeats 4000000
def as8(ky mF:Value)(t:List T)(bh:t.length≤100000):M prog 60 #[ky,mF] [bF ky 7 (t.map T.cells),bF mF 7 (t.map T.cells)] [] (fun m B=>m=.bool true∧B=[]):=by
 refine M.aM func60 a ntmps60 a fun an=>?_
 refine I 0 ?_
 refine w.A (aV.jN iR a (ax.b0 0 a)) a ?_
 refine I 0 ?_
 refine w.A (aV.jN iR a (ax.b0 1 a)) a ?_
 refine I 0 ?_
 refine K.fZ a oU ?_
 refine I 0 ?_
 refine de (bo:=Nat) (fun d=>d≤t.length) (fun d=>[(5,.b (d:Int))]) (fun d=>[]) (fun d=>t.length-d) 0 [0,1] E ?_
 rintro d R
 try dsimp only at R
 refine aU (fun eC=>?_) (fun eC=>?_)
 refine aD 1 ?_
 refine K.kk Tryz.bE aN ?_
 refine aD 0 ?_
 obtain ⟨bP,dJ⟩:=c4 (f:=t) (b:=d) E
 refine aD 4 ?_
 refine aj.n (U.Js [bP.id,bP.am,bP.cg,bP.ck,bP.eN,bP.dm,bP.seq] [bP.id,bP.am,bP.cg,bP.ck,bP.eN,bP.dm,bP.seq] Ed stoodInHeld66 eqGuardType66 (UD Ed) a a a a) a ?_
 exact Sf
 exact cH
def atw(ky mF:Value)(t:List aK)(bh:t.length≤100000):M prog 73 #[ky,mF] [bF ky 7 (t.map aK.cells),bF mF 7 (t.map aK.cells)] [] (fun m B=>m=.bool true∧B=[]):=by
 refine M.aM func73 a ntmps73 a fun an=>?_
 refine I 0 ?_
 refine w.A (aV.jN Es a (ax.b0 0 a)) a ?_
 refine I 0 ?_
 refine w.A (aV.jN Es a (ax.b0 1 a)) a ?_
 refine I 0 ?_
 refine K.fZ a oU ?_
 refine I 0 ?_
 refine de (bo:=Nat) (fun d=>d≤t.length) (fun d=>[(5,.b (d:Int))]) (fun d=>[]) (fun d=>t.length-d) 0 [0,1] E ?_
 rintro d R
 try dsimp only at R
 refine aU (fun eC=>?_) (fun eC=>?_)
 refine aD 1 ?_
 refine K.kk Tryz.bE aN ?_
 refine aD 0 ?_
 obtain ⟨bP,dJ⟩:=c4 (f:=t) (b:=d) E
 refine aD 4 ?_
 refine aj.n (U.Js [bP.iz,bP.h1,bP.H,bP.id,bP.code,bP.l,bP.p] [bP.iz,bP.h1,bP.H,bP.id,bP.code,bP.l,bP.p] BP stoodInHeld51 eqGuardType51 (UC BP) a a a a) a ?_
 exact Sf
 exact cH
def avu:qO prog 2 45 7:=qO.eo (d:=0) underlying45 aN (fun j=>by simp [sizeOf45]) ⟨rfl,bd,.inl ⟨underlying3,bd,⟨rfl,bd,.inl ⟨underlying3,bd,⟨rfl,bd,.inl ⟨underlying3,bd,⟨rfl,bd,.inl ⟨underlying3,bd,⟨rfl,bd,.inl ⟨underlying3,bd,⟨rfl,bd,.inl ⟨underlying3,bd,⟨rfl,bd,.inl ⟨underlying3,bd,rfl⟩⟩⟩⟩⟩⟩⟩⟩⟩⟩⟩⟩⟩⟩
def avv:qO prog 3 47 9:=qO.eo (d:=1) underlying47 aN (fun j=>by simp [sizeOf47]) ⟨rfl,bd,.inl ⟨underlying3,bd,⟨rfl,bd,.inl ⟨underlying3,bd,⟨rfl,bd,.inr ⟨7,avu,bd,rfl⟩⟩⟩⟩⟩⟩
def avt:qO prog 3 43 7:=qO.eo (d:=1) underlying43 aN (fun j=>by simp [sizeOf43]) ⟨rfl,bd,.inl ⟨underlying3,bd,⟨rfl,bd,.inl ⟨underlying3,bd,⟨rfl,bd,.inl ⟨underlying3,bd,⟨rfl,bd,.inl ⟨underlying3,bd,⟨rfl,bd,.inl ⟨underlying3,bd,⟨rfl,bd,.inl ⟨underlying3,bd,⟨rfl,bd,.inl ⟨underlying3,bd,rfl⟩⟩⟩⟩⟩⟩⟩⟩⟩⟩⟩⟩⟩⟩
def avs:qO prog 3 41 6:=qO.eo (d:=1) underlying41 aN (fun j=>by simp [sizeOf41]) ⟨rfl,bd,.inl ⟨underlying3,bd,⟨rfl,bd,.inl ⟨underlying3,bd,⟨rfl,bd,.inl ⟨underlying3,bd,⟨rfl,bd,.inl ⟨underlying3,bd,⟨rfl,bd,.inl ⟨underlying3,bd,⟨rfl,bd,.inl ⟨underlying3,bd,rfl⟩⟩⟩⟩⟩⟩⟩⟩⟩⟩⟩⟩
def avw:qO prog 4 62 23:=qO.eo (d:=2) underlying62 aN (fun j=>by simp [sizeOf62]) ⟨rfl,bd,.inl ⟨underlying3,bd,⟨rfl,bd,.inr ⟨6,avs,bd,⟨rfl,bd,.inr ⟨7,avt,bd,⟨rfl,bd,.inr ⟨9,avv,bd,rfl⟩⟩⟩⟩⟩⟩⟩⟩
def atv(ky mF cT MG:Value)(a_:List aK)(aH:List bk)(G:Value.oneCell' ky=true)(J:Value.oneCell' mF=true)(aA:Value.oneCell' cT=true)(aZ:Value.oneCell' MG=true)(aC:a_.length≤90000)(bc:aH.length≤90000):M prog 27 #[.agg #[ky,cT],.agg #[mF,MG]] [bF ky 7 (a_.map aK.cells),bF mF 7 (a_.map aK.cells),bF cT 23 (aH.map bk.cells),bF MG 23 (aH.map bk.cells)] [] (fun m B=>m=.bool true∧B=[]):=by
 refine M.aM func27 a ntmps27 a fun an=>?_
 refine I 3 ?_
 intros
 refine w.A (aV.jN xT a (ax.b0 2 a)) a ?_
 refine I 1 ?_
 refine w.A (aV.jN xT a (ax.b0 3 a)) a ?_
 refine I 0 ?_
 refine K.fZ a oU ?_
 refine I 0 ?_
 refine de (bo:=Nat) (fun d=>d≤aH.length) (fun d=>[(5,.b (d:Int))]) (fun d=>[]) (fun d=>aH.length-d) 0 [2,3] E ?_
 rintro d R
 try dsimp only at R
 refine aU (fun e_=>?_) (fun e_=>?_)
 refine aD 2 ?_
 refine K.kk Tryz.bE aN ?_
 refine aD 1 ?_
 obtain ⟨cQ,h3⟩:=c4 (f:=aH) (b:=d) E
 refine aD 5 ?_
 refine aj.n (U.apR [cQ.iz,cQ.s_,cQ.s9,cQ.dg,cQ.s',cQ.s8,cQ.mx,cQ.td,cQ.tb,cQ.uD,cQ.og,cQ.tc,cQ.hv,cQ.uB,cQ.qA,cQ.uw,cQ.rb,cQ.eC,cQ.fp,cQ.e_,cQ.jP,cQ.iV,cQ.iW] avw eqGuardType62 bd a a a) a ?_
 refine aD 1 ?_
 exact da (d+1) E
 refine P atw ?_
 exact cH
def Gd(br:Value)(f:List Int)(s:Int)(S:f.length≤100000):M prog 245 #[br,s] [bF br 1 (f.map bH)] [] (fun m B=>m=.bool (decide (s∈f))∧B=[]):=by
 refine M.aM func245 a ntmps245 a fun an=>?_
 refine I 0 ?_
 refine de (bo:=Nat) (fun d=>d≤f.length∧s∉f.take d) (fun d=>[(5,.b (d:Int))]) (fun d=>[]) (fun d=>f.length-d) 0 [0,1] ⟨by omega,by simp⟩ ?_
 rintro d ⟨R,dy⟩
 refine aU ?_ ?_
 refine I 0 ?_
 intros
 obtain ⟨bP,dJ⟩:=c4 (f:=f) (b:=d) E
 refine aU ?_ ?_
 refine aF ?_
 intros
 exact aO ⟨(by simp only [ed];rw [c9 (bn.NZ dJ E)]),a⟩
 refine I 1 ?_
 intros
 exact da (d+1) ⟨by omega,bn.N0 dy dJ E⟩
 exact abZ
def atp(br:Value)(f:List Int)(S:f.length≤1000):M prog 243 #[br] [bF br 1 (f.map bH)] [] (fun m B=>B=[row m 3 1 ((bn.rising f).map bH)]):=by
 refine M.aM func243 a ntmps243 a fun an=>K.fC 14 a<|K.lC 3 1 ?_
 refine de (bo:=Nat×Value×List Int) (fun (d,X,v)=>d≤f.length∧v=bn.rising (f.take d)∧v.length≤d) (fun (d,X,v)=>[(3,X),(4,.b (d:Int))]) (fun (d,X,v)=>[row X 3 1 (v.map bH)]) (fun (d,X,v)=>f.length-d) ⟨0,Value.slice none 0 0,[]⟩ [0,2] ⟨by omega,by simp [bn.rising],by simp⟩ ?_
 rintro ⟨d,X,v⟩ ⟨R,ci,gI⟩
 refine aU ?_ ?_
 refine I 0 ?_
 intros
 obtain ⟨bP,dJ⟩:=c4 (f:=f) (b:=d) E
 refine P Gd ?_
 refine aU ?_ ?_
 refine I 1 ?_
 intros
 exact da ⟨d+1,X,v⟩ ⟨by omega,Rw,E⟩
 refine I 0 ?_
 intros
 refine de (bo:=Nat) (fun A=>A≤v.length∧((v.take A).all fun F=>decide (F < bP))=true) (fun A=>[(5,.b (A:Int))]) (fun A=>[]) (fun A=>v.length-A) 0 [0,2,3,4] ⟨by omega,by simp⟩ ?_
 rintro A ⟨a6,fw⟩
 refine I 0 ?_
 refine K.kk Tryz.bE aN ?_
 refine aU (fun iV=>?_) (fun iV=>?_)
 refine aD 0 ?_
 obtain ⟨eE,jj⟩:=c4 (f:=v) (b:=A) E
 refine aU ?_ ?_
 refine I 1 ?_
 intros
 exact da (A+1) ⟨by omega,bn.apo fw jj bO⟩
 refine I 0 ?_
 intros
 refine w.A (aV.tT gz dt a (ax.row 0 a) a E E) a<|w.fg 3 1 (([]:List Int).map bH) a ?_
 refine w.f (aq.gg 0 qN nE a a a a a (ax.head (f:=v) (ax.row 1 a) E) bH.one co co) a ?_
 rintro j1 _ rfl
 refine I 0 ?_
 refine w.A (aV.jy gz dt a (ax.b0 0 a) dJ a kf) a<|w.A (aV.le ds (ax.b0 0 a) dJ 0 a E a) a ?_
 refine w.f (aq.fs bH [bP] gz dt iF a a a aN a a) a ?_
 rintro k' _ rfl
 refine aD 1 ?_
 intro pz
 refine w.A (aV.tU gz dt a (ax.row 2 a) a E E) a ?_
 refine w.f (aq.gg 1 qN nE a a a a a (ax.tail (f:=v) (ax.row 2 a) E a) bH.one co co) a ?_
 rintro qg _ rfl
 refine I 1 ?_
 exact da ⟨d+1,qg,((([]:List Int)++(v.take ((A:Int)).toNat))++([bP]))++(v.drop ((A:Int)).toNat)⟩ ⟨by omega,Rw,co⟩
 refine aD 0 ?_
 refine w.A (aV.tT gz dt a (ax.row 0 a) a E E) a<|w.fg 3 1 (([]:List Int).map bH) a ?_
 refine w.f (aq.gg 0 qN nE a a a a a (ax.head (f:=v) (ax.row 1 a) E) bH.one co co) a ?_
 rintro mX _ rfl
 refine I 0 ?_
 refine w.A (aV.jy gz dt a (ax.b0 0 a) dJ a kf) a<|w.A (aV.le ds (ax.b0 0 a) dJ 0 a E a) a ?_
 refine w.f (aq.fs bH [bP] gz dt iF a a a aN a a) a ?_
 rintro hc _ rfl
 refine aD 1 ?_
 intro pA
 refine w.A (aV.tU gz dt a (ax.row 2 a) a E E) a ?_
 refine w.f (aq.gg 1 qN nE a a a a a (ax.tail (f:=v) (ax.row 2 a) E a) bH.one co co) a ?_
 rintro wt _ rfl
 refine I 1 ?_
 exact da ⟨d+1,wt,((([]:List Int)++(v.take ((A:Int)).toNat))++([bP]))++(v.drop ((A:Int)).toNat)⟩ ⟨by omega,Rw,co⟩
 refine aF ?_
 intros
 exact aO (dz (fun (aI:List Int)=>([row X 3 1 (aI.map bH)]:List aB)) (show v=bn.rising f from DM))
def atk(bK bV b8 bG ch b' cf:Int)(fV br:Value)(f:List Int)(a6:Value.oneCell' fV=true)(S:f.length≤1000)(ea:f≠[]):M prog 159 #[.agg #[bK,bV,b8,bG,ch,b',cf,.b 1,fV],br] [bF br 1 (f.map bH)] [] (fun m B=>∃ eJ,m=.tuple #[.agg #[bK,bV,b8,bG,ch,b',cf,.b 2,eJ],.b 0,.b 0]∧B=[row eJ 3 1 ((bn.rising f).map bH)]):=by
 refine M.aM func159 a ntmps159 a fun an=>?_
 refine I 3 ?_
 intros
 refine w.A (aV.jN gz a (ax.b0 0 a)) a ?_
 refine I 0 ?_
 refine K.fZ a (p4 (by have au:=GI.2 ea;omega)) ?_
 refine I 0 ?_
 refine K.ef (df [(0,3),(3,0),(4,1),(5,0),(6,2)]) [1] Tryz.bE aN a<|aL.Z 1 a<|aL.A a (aV.nG 0 qL gE a a a) a<|aL.Z 1 a ?_
 refine aL.f a (aq.fl call243 (atp br f E) [] a a (.b0 0 a .nil)) a ?_
 rintro xj _ ⟨_,rfl,rfl⟩
 refine gr.kV [0,2] [1] a a<|aL.A a (aV.JH (ax.row 0 a) (fun yj=>(U.dg (U.build [(0,.agg #[bK,bV,b8,bG,ch,b',cf]),(1,.b 2),(2,xj)] [bK,bV,b8,bG,ch,b',cf,.b 2,xj] #[(0,7),(7,1),(8,1)] runUnderlying68 j2 (X5 underlying68) a (by cases xj<;>first|(simp [Value.oneCell'] at yj;done)|(kernel_rfl;done)))))) a ?_
 refine aL.one a (fun _ c=>by cases c<;>rfl) (ax.row 0 a) (fun Cx=>?_)
 refine aF ?_
 exact aO ⟨xj,a,a⟩
def ato(bK bV b8 bG ch b' cf:Int)(bg:Int)(hg:Value)(f:List Int)(i code:Int)(S:f.length≤1000)(bh:bg≠2∨i∉f):M prog 165 #[.agg #[bK,bV,b8,bG,ch,b',cf,bg,hg],i,code] [bF hg 1 (f.map bH)] [] (fun m B=>m=.tuple #[.agg #[bK,bV,b8,bG,ch,b',cf,bg,hg],.b 0]∧B=[]):=by
 refine M.aM func165 a ntmps165 a fun an=>?_
 refine I 0 ?_
 refine w.one (ax.b0 0 a) (fun n8=>?_)
 refine aD 3 ?_
 intros
 refine aU (fun jP=>?_) (fun jP=>?_)
 exact cH
 refine P Gd ?_
 refine I 0 ?_
 refine K.cond a (fun c7=>?_) (fun c7=>?_)
 have gi:(decide (i∈f))=false:=c_ c7
 have kM:=fa gi
 exact cH
 have h2:(decide (i∈f))=true:=c_ c7
 have pj:=dp h2
 exact absurd (by first|assumption|exact dp bO) (bh.resolve_left E)
def atm(bK bV b8 bG ch b' cf:Int)(hg:Value)(f:List Int)(i code:Int)(S:f.length≤1000)(bh:i∈f)(aS:code≠1):M prog 165 #[.agg #[bK,bV,b8,bG,ch,b',cf,.b 2,hg],i,code] [bF hg 1 (f.map bH)] [] (fun m B=>m=.tuple #[.agg #[.b 0,.b 0,.b 0,.b 0,.b 0,.b 0,.b 0,.b 0,Value.slice none 0 0],.b 7]∧B=[]):=by
 refine M.aM func165 a ntmps165 a fun an=>?_
 refine I 0 ?_
 refine w.one (ax.b0 0 a) (fun n8=>?_)
 refine P Gd ?_
 refine I 0 ?_
 intros
 refine K.fZ a (lZ (c9 bh)) ?_
 refine I 0 ?_
 refine K.lN a (c9 aS) ?_
 refine I 2 ?_
 exact cH
def atl(bK bV b8 bG ch b' cf:Int)(hg:Value)(f:List Int)(i:Int)(S:f.length≤1000)(bh:i∈f)(ea:bn.c8 f i≠[]):M prog 165 #[.agg #[bK,bV,b8,bG,ch,b',cf,.b 2,hg],i,.b 1] [bF hg 1 (f.map bH)] [] (fun m B=>∃ eJ,m=.tuple #[.agg #[bK,bV,b8,bG,ch,b',cf,.b 2,eJ],.b 0]∧B=[row eJ 3 1 ((bn.c8 f i).map bH)]):=by
 refine M.aM func165 a ntmps165 a fun an=>?_
 refine I 0 ?_
 refine w.one (ax.b0 0 a) (fun n8=>?_)
 refine P Gd ?_
 refine I 0 ?_
 intros
 refine K.fZ a (lZ (c9 bh))<|K.fC 19 a<|K.lC 3 1 ?_
 refine de (bo:=Nat×Value×List Int) (fun (d,X,v)=>d≤f.length∧v=bn.c8 (f.take d) i∧v.length≤d) (fun (d,X,v)=>[(8,X),(9,.b (d:Int))]) (fun (d,X,v)=>[row X 3 1 (v.map bH)]) (fun (d,X,v)=>f.length-d) ⟨0,Value.slice none 0 0,[]⟩ [1,3,6,7] ⟨by omega,by simp [bn.c8],by simp⟩ ?_
 rintro ⟨d,X,v⟩ ⟨R,ci,gI⟩
 refine aU ?_ ?_
 exact acS
 refine I 0 ?_
 intros
 refine w.A (aV.jN gz a (ax.row 0 a)) a ?_
 refine I 0 ?_
 refine K.fZ a (p4 (by have e4:=(show v=bn.c8 f i from DM);have au:=GI.2 ea;rw [←e4] at au;omega)) ?_
 refine I 1 ?_
 refine w.one (ax.row 0 a) (fun va=>?_)
 refine aF ?_
 exact aO ⟨X,a,dz (fun (aI:List Int)=>([row X 3 1 (aI.map bH)]:List aB)) (show v=bn.c8 f i from DM)⟩
def atn(bK bV b8 bG ch b' cf:Int)(hg:Value)(f:List Int)(i:Int)(S:f.length≤1000)(bh:i∈f)(aC:bn.c8 f i=[]):M prog 165 #[.agg #[bK,bV,b8,bG,ch,b',cf,.b 2,hg],i,.b 1] [bF hg 1 (f.map bH)] [] (fun m B=>m=.tuple #[.agg #[.b 0,.b 0,.b 0,.b 0,.b 0,.b 0,.b 0,.b 0,Value.slice none 0 0],.b 1]∧B=[]):=by
 refine M.aM func165 a ntmps165 a fun an=>?_
 refine I 0 ?_
 refine w.one (ax.b0 0 a) (fun n8=>?_)
 refine P Gd ?_
 refine I 0 ?_
 intros
 refine K.fZ a (lZ (c9 bh))<|K.fC 19 a<|K.lC 3 1 ?_
 refine de (bo:=Nat×Value×List Int) (fun (d,X,v)=>d≤f.length∧v=bn.c8 (f.take d) i∧v.length≤d) (fun (d,X,v)=>[(8,X),(9,.b (d:Int))]) (fun (d,X,v)=>[row X 3 1 (v.map bH)]) (fun (d,X,v)=>f.length-d) ⟨0,Value.slice none 0 0,[]⟩ [1,3,6,7] ⟨by omega,by simp [bn.c8],by simp⟩ ?_
 rintro ⟨d,X,v⟩ ⟨R,ci,gI⟩
 refine aU ?_ ?_
 exact acS
 refine I 0 ?_
 intros
 refine w.A (aV.jN gz a (ax.row 0 a)) a ?_
 refine I 0 ?_
 refine K.lN a (c9 (by have e4:=(show v=bn.c8 f i from DM);rw [aC] at e4;rw [e4];rfl)) ?_
 refine I 2 ?_
 exact cH
def Ym(bK bV b8 bG ch b' cf:Int)(bg x:Int)(fV:Value)(a6:Value.oneCell' fV=true):M prog 170 #[.agg #[bK,bV,b8,bG,ch,b',cf,bg,fV],x] [] [] (fun m B=>m=.b (if bG≤x then 6 else 0)∧B=[]):=by
 refine M.aM func170 a ntmps170 a fun an=>?_
 refine aU ?_ ?_
 exact abR
 exact abR
def atq(bK bV b8 bG ch b' cf:Int)(bg:Int)(hg:Value)(f:List Int)(ii GD vS xw rh y_ Bp:Int)(XW:Int)(g':Value)(t:List Int)(S:f.length≤1000)(bh:t.length≤1000):M prog 144 #[.agg #[bK,bV,b8,bG,ch,b',cf,bg,hg],.agg #[ii,GD,vS,xw,rh,y_,Bp,XW,g']] [bF hg 1 (f.map bH),bF g' 1 (t.map bH)] [] (fun m B=>m=.bool (decide ([bK,bV,b8,bG,ch,b',cf,bg]=[ii,GD,vS,xw,rh,y_,Bp,XW])&&decide (f=t))∧B=[]):=by
 refine M.aM func144 a ntmps144 a fun an=>?_
 refine I 0 ?_
 refine w.one (ax.b0 0 a) (fun n8=>?_)
 refine I 1 ?_
 intros
 refine w.one (ax.b0 1 a) (fun yj=>?_)
 refine I 3 ?_
 intros
 refine w.n (U.Js [bK,bV,b8,bG,ch,b',cf] [ii,GD,vS,xw,rh,y_,Bp] Ed stoodInHeld66 eqGuardType66 (UD Ed) a a a a) a ?_
 refine I 0 ?_
 refine w.fz 11 a (fun bT=>?_) (fun bT=>?_)
 have c7:(decide (([bK,bV,b8,bG,ch,b',cf]:List Int)=[ii,GD,vS,xw,rh,y_,Bp]))=false:=c_ bT
 have j9:=fa c7
 refine aF ?_
 exact Se
 have dL:(decide (([bK,bV,b8,bG,ch,b',cf]:List Int)=[ii,GD,vS,xw,rh,y_,Bp]))=true:=c_ bT
 have s6:=dp dL
 refine aU (fun pj=>?_) (fun pj=>?_)
 refine aF ?_
 exact Se
 refine aU ?_ ?_
 refine aF ?_
 intros
 exact Se
 refine I 0 ?_
 intros
 refine de (bo:=Nat) (fun d=>d≤f.length∧f.length=t.length∧f.take d=t.take d) (fun d=>[(5,.b (d:Int))]) (fun d=>[]) (fun d=>f.length-d) 0 [2,3] ⟨by omega,by omega,rfl⟩ ?_
 rintro d ⟨R,AA,ci⟩
 refine aU (fun s4=>?_) (fun s4=>?_)
 refine aU ?_ ?_
 refine I 0 ?_
 intros
 refine K.kk Tryz.bE aN ?_
 refine aD 1 ?_
 obtain ⟨gA,pa⟩:=c4 (f:=f) (b:=d) E
 refine aD 3 ?_
 obtain ⟨Cj,CB⟩:=c4 (f:=t) (b:=d) E
 refine aU ?_ ?_
 refine aF ?_
 intros
 exact aO ⟨(by have au:f≠t:=(fun au=>by subst au;have dx:=pa.symm.trans CB;cases dx;omega);simp_all [ed]),a⟩
 refine I 1 ?_
 intros
 exact da (d+1) ⟨by omega,AA,(by rw [hx,hx,ci,pa,CB,(ke.1 bO:gA=Cj)])⟩
 refine aF ?_
 intros
 exact adT
 refine aF ?_
 exact adT
def atc(ky mF:Value)(t:List cR)(bh:t.length≤1000):M prog 63 #[ky,mF] [bF ky 4 (t.map cR.cells),bF mF 4 (t.map cR.cells)] [] (fun m B=>m=.bool true∧B=[]):=by
 refine M.aM func63 a ntmps63 a fun an=>?_
 refine I 0 ?_
 refine w.A (aV.jN nr a (ax.b0 0 a)) a ?_
 refine I 0 ?_
 refine w.A (aV.jN nr a (ax.b0 1 a)) a ?_
 refine I 0 ?_
 refine K.fZ a oU ?_
 refine I 0 ?_
 refine de (bo:=Nat) (fun d=>d≤t.length) (fun d=>[(5,.b (d:Int))]) (fun d=>[]) (fun d=>t.length-d) 0 [0,1] E ?_
 rintro d R
 try dsimp only at R
 refine aU (fun eC=>?_) (fun eC=>?_)
 refine aD 1 ?_
 refine K.kk Tryz.bE aN ?_
 refine aD 0 ?_
 obtain ⟨bP,dJ⟩:=c4 (f:=t) (b:=d) E
 refine aD 4 ?_
 refine aj.n (U.Js [bP.O,bP.aa,bP.aP,bP.cC] [bP.O,bP.aa,bP.aP,bP.cC] uW stoodInHeld175 eqGuardType175 (aiW uW) a a a a) a ?_
 exact Sf
 exact cH
def atr(r aI:a7)(G:r.e=aI.e)(J:r.bg=aI.bg)(aA:r.cr=aI.cr)(S:r.cr.length≤1000):M prog 144 #[r,aI] [bF r.m 1 (r.cr.map bH),bF aI.m 1 (aI.cr.map bH)] [] (fun m B=>m=.bool true∧B=[]):=by
 have au:=atq r.e.id r.e.am r.e.cg r.e.ck r.e.eN r.e.dm r.e.seq r.bg r.m r.cr aI.e.id aI.e.am aI.e.cg aI.e.ck aI.e.eN aI.e.dm aI.e.seq aI.bg aI.m aI.cr S (by rw [←aA];exact S)
 have av:(decide ([r.e.id,r.e.am,r.e.cg,r.e.ck,r.e.eN,r.e.dm,r.e.seq,r.bg]=[aI.e.id,aI.e.am,aI.e.cg,aI.e.ck,aI.e.eN,aI.e.dm,aI.e.seq,aI.bg])&&decide (r.cr=aI.cr))=true:=by rw [G,J,aA];simp
 rw [av] at au
 exact au
def atx(ky mF:Value)(f t:List a7)(S:f.length≤1000)(AA:f.map a7.cL=t.map a7.cL)(q5:∀ k∈f,k.cr.length≤1000):M prog 61 #[ky,mF] [bF ky 9 (f.map a7.cells),bF mF 9 (t.map a7.cells),hZ (f.map a7.bF),hZ (t.map a7.bF)] [] (fun m B=>m=.bool true∧B=[]):=by
 have aAu:=g.WW AA
 refine M.aM func61 a ntmps61 a fun an=>?_
 refine I 0 ?_
 refine w.A (aV.jN ws a (ax.b0 0 a)) a ?_
 refine I 0 ?_
 refine w.A (aV.jN ws a (ax.b0 1 a)) a ?_
 refine I 0 ?_
 refine K.fZ a (p4 E) ?_
 refine I 0 ?_
 refine de (bo:=Nat) (fun d=>d≤f.length) (fun d=>[(5,.b (d:Int))]) (fun d=>[]) (fun d=>f.length-d) 0 [0,1] E ?_
 rintro d R
 try dsimp only at R
 refine aU (fun eC=>?_) (fun eC=>?_)
 refine I 0 ?_
 refine w.el (aV.jN ws a (ax.b0 1 a)) a a ?_
 refine I 0 ?_
 refine K.lN a (c9 E)<|K.fC 4 a ?_
 obtain ⟨bP,dJ⟩:=c4 (f:=f) (b:=d) E
 have AB:=g.WW AA
 obtain ⟨cP,il⟩:=c4 (f:=t) (b:=d) E
 obtain ⟨mm,vn,vo⟩:=g.aow AA dJ il
 refine K.hZ 2 a (ar:=bF bP.m 1 (bP.cr.map bH)) (bx.2 ⟨bP,eF dJ,a⟩)<|K.hZ 3 a (ar:=bF cP.m 1 (cP.cr.map bH)) (bx.2 ⟨cP,eF il,a⟩)<|K.fD 8 Tryz.bE aN ?_
 refine P (atr bP cP mm vn vo (by have au:=q5 _ (eF dJ);omega)) ?_
 refine I 1 ?_
 exact da (d+1) E
 exact cH
def k0(h:g.b3)(ah:g.ct)(q:g.cu)(v:Nat)(dS dK:Value)(dn:List aK)(iz id code l p:Int)(aC:dn.length≤99999):M prog 150 #[ah.s,v,iz,id,code,l,p] [ai ah.s (g.kt h ah q) 125] [ai v [dS,dK] 36,row dS 51 7 (dn.map aK.cells)] (fun m B=>∃ ha,m=.tuple #[]∧B=[ai v [ha,dK] 36,row ha 51 7 ((dn++[(⟨iz,q.x,h.al,id,code,l,p⟩:aK)]).map aK.cells)]):=by
 refine M.aM func150 a ntmps150 a fun an=>K.ef (df [(0,19),(19,0),(20,0),(21,2),(23,0)]) [0] Tryz.bE aN a ?_
 refine aD 4 ?_
 refine aL.f a (aq.fs aK.cells [(⟨iz,q.x,h.al,id,code,l,p⟩:aK)] Es sizeOf51 HP a a a aN a a) a ?_
 exact adC
def vE(h:g.b3)(ah:g.ct)(q:g.cu)(v:Nat)(dS dK:Value)(dn:List aK)(eT:List bk)(e:T)(code:Int)(aC:dn.length≤99990)(bc:eT.length≤99990):M prog 153 #[ah.s,v,e,code] [ai ah.s (g.kt h ah q) 125] [ai v [dS,dK] 36,row dS 51 7 (dn.map aK.cells),row dK 62 23 (eT.map bk.cells)] (fun m B=>∃ ha ij,m=.tuple #[]∧B=[ai v [ha,ij] 36,row ha 51 7 ((dn++[g.ek q.x h.al (e,code)]).map aK.cells),row ij 62 23 ((eT++[g.eB h.al q.d (e,code)]).map bk.cells)]):=by
 refine M.aM func153 a ntmps153 a fun an=>?_
 refine P k0 ?_
 refine I 0 ?_
 intros
 refine K.ef (df [(0,32),(32,0),(33,0),(34,2),(36,0)]) [0,2] Tryz.bE aN a ?_
 refine aD 9 ?_
 refine aL.f a (aq.fs bk.cells [(⟨2,0,0,0,0,0,0,e.id,h.al,e.cg,code,q.d.aa,q.d.aP,q.d.aR,0,0,0,0,0,0,0,0,0⟩:bk)] xT B8 Ey a a a aN a a) a ?_
 rintro fd _ rfl
 refine aD 3 ?_
 intro lv
 refine aL.one a (fun _ c=>by cases c<;>rfl) (ax.row 4 a) (fun o_=>?_)
 refine aL.cq a (aq.gy 1 sizeOf34 o_ a a a a) ?_
 rintro _ _ rfl
 refine aF ?_
 exact aO ⟨_,_,a,a⟩
def PY(h:g.b3)(ah:g.ct)(q:g.cu)(id:Int)(S:q.A.length≤1000)(kH:Value.oneCell' ah.e5=true):M prog 148 #[ah.s,id] [ai ah.s (g.kt h ah q) 125,bF ah.e5 7 (q.A.map T.cells)] [] (fun m B=>m=.bool (q.A.any fun e=>decide (e.id=id))∧B=[]):=by
 refine M.aM func148 a ntmps148 a fun an=>?_
 refine I 0 ?_
 refine de (bo:=Nat) (fun d=>d≤q.A.length∧((q.A.take d).any fun e=>decide (e.id=id))=false) (fun d=>[(5,.b (d:Int))]) (fun d=>[]) (fun d=>q.A.length-d) 0 [0,1] ⟨by omega,rfl⟩ ?_
 rintro d ⟨R,dy⟩
 refine aU ?_ ?_
 refine I 1 ?_
 intros
 obtain ⟨bP,dJ⟩:=c4 (f:=q.A) (b:=d) E
 refine aU ?_ ?_
 refine aF ?_
 intros
 exact aO ⟨(by simp only [ed];rw [vV.2 ⟨bP,eF dJ,c9 bO⟩]),a⟩
 refine I 1 ?_
 intros
 exact da (d+1) ⟨by omega,(by rw [hx,List.any_append,dy,dJ];simp [*])⟩
 refine aF ?_
 intros
 exact aO ⟨(by simp only [ed];rw [ir E] at dy;rw [dy]),a⟩
def at3(h:g.b3)(ah:g.ct)(q:g.cu)(bu:List a7)(S:bu.length≤1000)(ga:Value.oneCell' ah.jU=true):M prog 239 #[ah.s] [ai ah.s (g.kt h ah q) 125,bF ah.jU 9 (bu.map a7.cells)] [] (fun m B=>m=.b (g.CU (g.nw (bu.map a7.cL)))∧B=[]):=by
 refine M.aM func239 a ntmps239 a fun an=>?_
 refine I 0 ?_
 refine de (bo:=Nat) (fun d=>d≤bu.length∧g.ru (fun k=>(fun Z=>decide (Z.bg=0)) k.cL) bu d) (fun d=>[(3,.b (d:Int))]) (fun d=>[]) (fun d=>bu.length-d) 0 [0] ⟨by omega,g.ru.zero⟩ ?_
 rintro d ⟨R,dy⟩
 refine aU ?_ ?_
 refine I 1 ?_
 intros
 obtain ⟨bP,dJ⟩:=c4 (f:=bu) (b:=d) E
 exact adp
 exact ab2
def Kb(h:g.b3)(ah:g.ct)(q:g.cu)(bu:List a7)(id:Int)(S:bu.length≤1000)(ga:Value.oneCell' ah.jU=true):M prog 149 #[ah.s,id] [ai ah.s (g.kt h ah q) 125,bF ah.jU 9 (bu.map a7.cells)] [] (fun m B=>m=.b (g.CU (g.hd (bu.map a7.cL) id))∧B=[]):=by
 refine M.aM func149 a ntmps149 a fun an=>?_
 refine I 0 ?_
 refine de (bo:=Nat) (fun d=>d≤bu.length∧g.ru (fun k=>(fun Z=>decide (Z.bg≠0)&&decide (Z.e.id=id)) k.cL) bu d) (fun d=>[(5,.b (d:Int))]) (fun d=>[]) (fun d=>bu.length-d) 0 [0,1] ⟨by omega,g.ru.zero⟩ ?_
 rintro d ⟨R,dy⟩
 refine aU ?_ ?_
 refine I 1 ?_
 intros
 obtain ⟨bP,dJ⟩:=c4 (f:=bu) (b:=d) E
 refine aU (fun e_=>?_) (fun e_=>?_)
 exact adp
 refine I 1 ?_
 exact da (d+1) ⟨by omega,dy.next dJ (by simp [a7.cL, *])⟩
 exact ab2
end Go.Proofs.YtohjlkjhpibkmaaGreatDoor
