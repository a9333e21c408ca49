/-
  Rules and plain laws that the walks use.
-/
import Derived.WalkKit
import Derived.Still
import Derived.Laws.OwnMore
import Derived.Maps.AppendAt
import Derived.StillTail
import Derived.ProofKit
import Derived.Deep.Slices
import Derived.Deep.Fields
import Derived.ChangeSame
import Derived.OpenShut
set_option linter.all false
instance:Coe Int Go.Value:=⟨.int .i64⟩
instance:Coe Nat Go.Value:=⟨fun s=>.pointer (some ⟨s,0,none⟩)⟩
abbrev Go.Value.b(e:Int):Go.Value:=.int .i64 e
abbrev Go.Value.n(s:Nat):Go.Value:=.pointer (some ⟨s,0,none⟩)
namespace Go.LK
open Go Go.RowKit
def eh:=@List.length_append
def fq:=@List.length_nil
def e6:=@List.length_cons
def dD:=@List.getElem?_eq_some_iff
def cm:=@List.forall_mem_cons
def ib:=@List.length_take
def dp:=@of_decide_eq_true
def c9:=@decide_eq_true
def eF:=@List.mem_of_getElem?
def fc:=@List.length_map
def ol:=@List.length_set
def fa:=@of_decide_eq_false
def et:=@List.getElem?_eq_getElem
def p4:=@decide_eq_false
def hw:=@List.length_drop
def be:=@if_neg
def ir:=@List.take_of_length_le
def ee:=@if_pos
def bx:=@List.mem_map
def dz:=@congrArg
def fb:=@List.mem_cons
def kv:=@List.length_filter_le
def lK:=@List.nil_append
def hx:=@List.take_add_one
def gR:=@List.map_append
def hy:=@List.getElem?_map
def h6:=@Bool.and_eq_true
def l6:=@Array.getD_eq_getD_getElem?
def kc:=@Nat.le_of_ble_eq_true
def gS:=@List.mem_cons_of_mem
def kO:=@List.map_cons
def kw:=@List.mem_iff_getElem?
def iE:=@List.mem_append
def ia:=@List.append_assoc
def kd:=@List.mem_range
def k6:=@List.getElem?_take
def jV:=@Bool.and_true
def ps:=@List.getD_eq_getElem?_getD
def k7:=@Go.Result.andThen_ok
def jf:=@Go.run_underlying
def l7:=@List.pairwise_cons
def k8:=@List.all_cons
def kP:=@List.nodup_cons
def qE:=@Array.getElem?_eq_some_iff
def iZ:=@Nat.le_trans
def nm:=@List.mem_singleton
def jg:=@List.filter_append
def mR:=@Nat.lt_or_ge
def lm:=@List.nodup_append
def ri:=@List.all_nil
def om:=@Array.getElem?_eq_getElem
def oo:=@List.cons_append
def p5:=@List.mem_cons_self
def qF:=@List.drop_eq_getElem_cons
def oQ:=@Nat.le_refl
def tn:=@List.getElem?_set_ne
def kQ:=@List.take_append_drop
def ke:=@Decidable.not_not
def nn:=@Go.Sem.run_bind
def pt:=@List.mem_filter
def oq:=@List.not_mem_nil
def nR:=@List.filter_cons
def rj:=@List.all_eq_true
def oR:=@List.cons.injEq
def oS:=@List.mem_append_left
def uK:=@Option.isSome_iff_exists
def rk:=@List.filter_eq_self
def to:=@List.getElem?_append_left
def qG:=@List.filterMap_append
def qH:=@List.getElem?_set
def p6:=@List.foldl_append
def tp:=@List.nodup_range
def p7:=@List.pairwise_append
def p8:=@Option.some.inj
def Bx:=@Option.map_some
def xx:=@List.getElem?_drop
def nS:=@List.findIdx?_eq_some_iff_getElem
def rl:=@List.map_map
def tq:=@List.perm_middle
def tr:=@Prod.mk.injEq
def uL:=@List.filterMap_cons
def rm:=@List.range_succ
def By:=@List.eq_nil_of_length_eq_zero
def zc:=@Classical.byContradiction
def xy:=@List.getElem?_set_self
def uM:=@Nat.zero_add
def xz:=@List.ext_getElem?
def p9:=@List.getElem?_of_mem
def vT:=@List.mem_filterMap
def ts:=@Nat.not_lt_zero
def xA:=@List.append_nil
def zd:=@List.filter_sublist
def vU:=@List.getElem?_eq_none
def uN:=@Bool.not_eq_true'
def DI:=@Nat.min_eq_left
def uO:=@List.length_eq_zero_iff
def ze:=@List.mem_of_mem_take
def vV:=@List.any_eq_true
def Bz:=@Option.map_eq_some_iff
def BA:=@Array.getElem?_eq_none
def uI:=@List.drop_zero
def uJ:=@List.Perm.refl
def Br:=@Nat.eq_of_beq_eq_true
def Bs:=@List.getElem?_toArray
def Bt:=@List.Perm.append_left
def se:=@Go.Sem.run_pure
def Ds:=@List.length_filterMap_le
def sf:=@Int.le_refl
def Dt:=@List.drop_eq_nil_of_le
def GF:=@List.perm_append_singleton
def Du:=@List.getElem?_append_right
def Dv:=@List.perm_append_comm
def tm:=@List.length_mergeSort
def GG:=@Nat.zero_le
def GH:=@List.pairwise_iff_getElem
def KL:=@List.findIdx?_eq_none_iff
def Dw:=@Array.all_eq_true_iff_forall_mem
def y':=@List.contains_eq_mem
def KM:=@Bool.eq_iff_iff
def Dx:=@Array.getElem?_setIfInBounds_ne
def GI:=@List.length_pos_iff
def GJ:=@List.getElem?_replicate
def Dy:=@List.getElem?_cons_succ
def za:=@List.drop_succ_cons
def GK:=@List.take_take
def Dz:=@List.filter_eq_nil_iff
def KN:=@List.append_of_mem
def GL:=@List.length_singleton
def Bu:=@List.length_replicate
def DA:=@List.foldl_cons
def DB:=@List.length_range
def DC:=@List.flatten_cons
def KO:=@List.filter_congr
def Bv:=@Nat.add_mul
def GM:=@List.take_succ_cons
def DD:=@Nat.add_zero
def QJ:=@Option.map_none
def KP:=@List.set_eq_take_append_cons_drop
def GN:=@List.mem_singleton_self
def DE:=@List.getElem?_cons_zero
def DF:=@List.find?_eq_none
def KQ:=@Bool.true_and
def KR:=@Bool.or_eq_true
def GO:=@List.range_succ_eq_map
def KS:=@List.Perm.append_right
def GP:=@List.size_toArray
def aBE:=@Int.emod_eq_of_lt
def GQ:=@Function.comp_def
def za148:=@Array.toList_push
def Bw:=@Bool.false_and
def QK:=@Bool.and_false
def QL:=@List.find?_eq_some_iff_getElem
def QM:=@List.eq_nil_iff_forall_not_mem
def KT:=@Int.mul_le_mul_of_nonneg_right
def GS:=@Bool.and_eq_false_iff
def GU:=@Go.World.ownsRow_nil
def GV:=@Option.bind_some
def DG:=@List.take_length
def KU:=@List.map_take
def GW:=@List.map_congr_left
def QN:=@List.all_append
def KV:=@Go.ChangeMaps.modify_eq_set
def KW:=@Array.toList_modify
def KX:=@List.map_replicate
def KY:=@List.filter_filter
def QO:=@Array.any_eq_true'
def KZ:=@List.mem_of_find?_eq_some
def K0:=@List.getElem?_zip_eq_some
def DH:=@List.drop_drop
def GX:=@Int.toNat_natCast
def QP:=@Int.lt_trichotomy
def QQ:=@Nat.mul_one
def QR:=@Nat.add_assoc
def QS:=@List.pairwise_mergeSort
def K1:=@List.flatten_eq_nil_iff
def K2:=@List.filter_cons_of_neg
def QT:=@Option.getD_some
def QU:=@Nat.le_of_not_lt
def QV:=@List.drop_of_length_le
def QW:=@Nat.ble_eq_true_of_le
def QX:=@Array.mem_of_getElem?
def QY:=@Array.getElem?_toList
def QZ:=@Nat.mul_le_mul_right
def K3:=@List.mem_of_mem_drop
def K4:=@Array.toArray_toList
def K5:=@List.take_zero
def K6:=@List.take_left
def K7:=@Int.mul_nonneg
def Q0:=@Int.mul_le_mul
def Q1:=@Bool.not_false
def Q2:=@List.mergeSort_perm
def K8:=@Array.length_toList
def Q3:=@List.map_drop
def Q4:=@List.filterMap_map
def K9:=@Bool.not_true
def Q5:=@Bool.false_or
def zb:=@List.take_succ_eq_append_getElem
def Q6:=@Option.some.injEq
def K_:=@Ne.symm
def K':=@List.any_eq_false
def La:=@Nat.mul_comm
def Lb:=@List.map_nil
def aam:=@Int.le_trans
def Q7:=@Decidable.em
def Q8:=@Array.eq_empty_of_size_eq_zero
def Q9:=@Nat.lt_of_not_le
def Q_:=@List.take_append
def Q':=@List.map_toArray
def Lc:=@List.getElem_inj
def Ra:=@List.Sublist.map
def aan:=@Go.RoundIn.mono
def aao:=@List.find?_some
def aap:=@Int.fdiv_eq_ediv_of_nonneg
def aaq:=@List.foldl_nil
def Ld:=@List.append_eq_append_iff
def Le:=@Go.Sem.run_ite
def aar:=@Nat.ble_eq
def aas:=@List.length_erase_of_mem
def aat:=@List.eq_of_mem_replicate
def aau:=@Bool.eq_false_or_eq_true
def aav:=@List.filter_cons_of_pos
def aaw:=@List.eraseIdx_cons_succ
def Rb:=@List.length_pos_of_mem
def aax:=@Nat.zero_mul
def aay:=@List.singleton_append
def aaz:=@List.set_append_right
def Lf:=@List.mem_append_right
def aaA:=@Go.Calls.mono
def aaB:=@Array.getElem?_modify
def aaC:=@Array.getElem?_append
def aaD:=@Nat.div_lt_of_lt_mul
def aaE:=@List.getElem_toArray
def aB4:=@List.Pairwise.filter
end Go.LK
section
variable{o:Prop}
def E(c:o:=by omega):o:=c
def aN(c:o:=by kernel_rfl):o:=c
def mS(c:o:=by first|omega|(have U5:=((bn.AM (bO:bn.oX f i _)).2 bh);have au:=bn.WB (bO:bn.oX f i _) U5;first|omega|(simp only [eh,e6,fq,ib,hw];omega))):o:=c
def bO(c:o:=by assumption):o:=c
def tx(c:o:=by first|omega|(have e4:=ao.A;have mH:=g_.s1;have qY:=g_.yN;simp only [fq] at mH qY;have fe:=ao.bf.aS;have h4_:(g.lk h.bb q.d.aR a8.e.am q.x a8.e.ck h.bD q.y).2.length≤h.bb.length:=g.r7 _ _;first|omega|(simp only [eh,e6,fq];omega))):o:=c
def v8(c:o:=by (try dsimp only);have aAw:=g_.w7;have e4:=g_.i';have mH:=g_.c0;have sJ:=ao.i';have h9_:=ao.c0;have qY:=ao.bf.pR;have z7:=ao.bf.VV;have U5:=ao.bf.IN;have fe:=ao.bf.aS;have h4_:(g.lk h.bb q.d.aR a8.e.am q.x a8.e.ck h.bD q.y).2.length≤h.bb.length:=g.r7 _ _;omega):o:=c
def bd(c:o:=by decide):o:=c
def pu(c:o:=by first|omega|(have aw:=ad.length_eq;first|omega|(simp only [ol];omega))|(have au:=cF bO;first|omega|(have aw:=ad.length_eq;omega))):o:=c
def BD(c:o:=by first|omega|(have e4:=dz List.length hes;have dx:=dz List.length At;simp only [fc,ib] at e4 dx;omega)|(have fe:=vi.len;have h4_:=vi.Jz;have mH:=g.sY aW.b.av;have qY:=bf.gk;have e4:=dz List.length hes;have dx:=dz List.length At;simp only [fc,ib] at e4 dx;first|omega|(simp only [eh,e6,fq];omega))):o:=c
def hq(c:o:=by first|omega|(simp only [eh,e6,fq];omega)):o:=c
def oT(c:o:=by first|omega|(have au:=(dD.1 q7).1;omega)|(have au:=(dD.1 wW).1;omega)|(simp only [eh,e6,fq];omega)):o:=c
def nT(c:o:=by first|omega|(have aw:=ad.length_eq;first|omega|(simp only [ol];omega))):o:=c
def DL(c:o:=by have e4:=ao.A;have mH:=g_.s1;have qY:=g_.yN;simp only [fq] at mH qY;have fe:=ao.bf.aS;have h4_:(g.lk h.bb q.d.aR a8.e.am q.x a8.e.ck h.bD q.y).2.length≤h.bb.length:=g.r7 _ _;(try dsimp only);(try simp only [eh,e6,fq]);omega):o:=c
def tv(c:o:=by first|omega|(have z7:=hso.len ac;omega)|(have z7:=hso.len ac;simp only [eh,e6,fq,ib,hw];omega)):o:=c
def jW(c:o:=by first|omega|(simp only [ol];omega)):o:=c
def G0(c:o:=by have e4:=ao.A;have fe:=kv (fun e:T=>!decide (g.ew e (g.later q.x 1)=0)) q.A;have h4_:=dz List.length hea;have mH:=dz List.length hfa;simp only [fc,ib] at h4_ mH;first|omega|(have qY:=g.w1 mj sQ;have z7:=ao.jq;have h9_:=ao.bf.gk;omega)):o:=c
def qI(c:o:=by rw [(show (!((y (O).toNat).isSome))=true from by rw [aA];rfl)];decide):o:=c
def Lo(c:o:=by first|omega|(have e4:=ao.A;have mH:=g_.s1;have qY:=g_.yN;simp only [fq] at mH qY;have fe:=ao.bf.aS;have h4_:(g.lk h.bb q.d.aR a8.e.am q.x a8.e.ck h.bD q.y).2.length≤h.bb.length:=g.r7 _ _;have z7:=g_.w7;first|omega|(simp only [eh,e6,fq,ol];omega))|(have au:=(dD.1 iy).1;omega)):o:=c
def oU(c:o:=by simp):o:=c
def co(c:o:=by first|omega|(simp only [eh,e6,fq,ib,hw];omega)):o:=c
def Ly(c:o:=by have pN:g.iU q.x q.d.aa am a1=0:=aaQ;rw [g.at_ (e:=(⟨id,am,aE,a1,bM,q.x,q.aY+1⟩:T)) ao.e8 (g.uy pf)];exact g.PU q2 cN pN rX):o:=c
def tw(c:o:=by first|omega|(simp only [eh,e6,fq];rw [hss];simp only [fc,ib];omega)):o:=c
def BC(c:o:=by unfold g.iv;(repeat' split)<;>first|rfl|(exfalso;omega)|(simp_all;done)|(exfalso;simp_all;done)|(exfalso;simp_all;omega)):o:=c
def sh(c:o:=by have au:=aQ.yc (bO:aQ.cg dl 1 8=true);omega):o:=c
def kx(c:o:=by unfold nk;rw [g.arm]):o:=c
def LA(c:o:=by first|omega|(have fe:=g.sY aW.b.av;have h4_:=bf.gk;first|omega|(have mH:=dz List.length ci;simp only [fc,ib] at mH;simp only [eh,e6,fq];omega)|(have mH:=(aW.b.k.ff _ _ ag).2.2.c2;simp only [eh,e6,fq];omega))):o:=c
def LB(c:o:=by have au:=ao.j;(try dsimp only);first|omega|(have dx:=g_.w7;have fe:=ao.bf.aS;have h4_:(g.lk h.bb q.d.aR a8.e.am q.x a8.e.ck h.bD q.y).2.length≤h.bb.length:=g.r7 _ _;omega)):o:=c
def LC(c:o:=by first|(have e4:=g_.yN;have sJ:=g.r7 (fun i=>g.fX i d.aR e.am x e.ck (g.fI y h.bD i.O e.am x)) h.bb;have h9_:=bf.aS;first|omega|(simp only [eh,e6,fq];omega))|simp):o:=c
def LD(c:o:=by first|(have e4:=g_.s1;have sJ:=g.r7 (fun i=>g.fX i d.aR e.am x e.ck (g.fI y h.bD i.O e.am x)) h.bb;have h9_:=bf.aS;first|omega|(simp only [eh,e6,fq];omega))|simp):o:=c
def v6(c:o:=by first|omega|(have au:=g.VD.1 (bO:g.nd ap e=true);omega)):o:=c
def LF(c:o:=by have pN:g.iU q.x q.d.aa am a1=0:=aaQ;rw [OJ];exact g.Yz q2 cN pN rX AH):o:=c
def uP(c:o:=by first|omega|(simp only [lK,eh,e6,fq,ib,hw];omega)):o:=c
def G7(c:o:=by first|omega|(have e4:=ml.s1;have dx:=ml.Pw;first|omega|(simp only [lK,eh,e6,fq,hw,ol] at *;omega)|(have au:=(dD.1 iy).1;omega))):o:=c
def Rw(c:o:=by rw [bn.atJ dJ,←ci];first|(rw [bn.anD (by first|assumption|exact dp bO)];done)|(rw [bn.anF (by first|assumption|exact fa bO)];first|exact bn.WF fw E (.inl E)|exact bn.WF fw E (.inr ⟨_,by assumption,by assumption⟩))):o:=c
def zi(c:o:=by first|omega|(have pd:=ad.length_eq;first|omega|(simp only [ol];omega))):o:=c
def ot(c:o:=by (try simp only [fq]);omega):o:=c
def xD(c:o:=by have e4:=ao.A;have dx:=ao.cd;first|omega|(dsimp only;omega)):o:=c
def v7(c:o:=by have e4:=ao.A;have dx:=ao.cd;(try dsimp only);omega):o:=c
def LG(c:o:=by have dx:=g_.w7;have sJ:=g.r7 (fun i=>g.fX i d.aR e.am x e.ck (g.fI y h.bD i.O e.am x)) h.bb;have h9_:=bf.aS;omega):o:=c
def LH(c:o:=by have e4:=g_.c0;have sJ:=g.r7 (fun i=>g.fX i d.aR e.am x e.ck (g.fI y h.bD i.O e.am x)) h.bb;have h9_:=bf.aS;omega):o:=c
def zj(c:o:=by have e4:=rW;(try dsimp only);simp only [lK,eh,e6,fq];omega):o:=c
def Rx(c:o:=by have nf:g.n9 h q id aE code aa aP=(([]:List aK)++[(⟨8,q.x,h.al,aP,0,aE,aa⟩:aK)])++[(⟨7,q.x,h.al,id,code,aE,1⟩:aK)]:=zo;exact (g.Yx q2 ag Af n_ fL).trans (by rw [nf])):o:=c
def kR(c:o:=by dsimp only;omega):o:=c
def DT(c:o:=by first|omega|(simp only [eh,e6,fq];omega)|(have au:=N4.len;simp only [fq] at au;omega)):o:=c
def G8(c:o:=by first|omega|(have Wc:=g.apJ (ab.gP s (dr:=2147483647) bd) (ab.gP n (dr:=100) bd);omega)):o:=c
def xE(c:o:=by have e4:=ao.A;simp only [lK,eh,e6,fq] at *;omega):o:=c
def LI(c:o:=by rw [g.Dg,ao.n];show q.n.set eb ⟨a8.e,2,bn.c8 a8.cr id⟩=q.n.set eb ⟨a8.e,a8.bg,g.oa a8.bg a8.cr id⟩;rw [bf,oF]):o:=c
def Ry(c:o:=by have e4:=ao.A;have h4_:=dz List.length hea;simp only [fc,ib] at h4_;first|omega|(have mH:=dz List.length Oe;have qY:=kv (fun k:a7=>decide (k.bg≠0)) bu;simp only [eh,fc,ib] at mH;omega)):o:=c
def abu(c:o:=by rw [show ab.cc nb (f.length:Int)+((d+1:Nat):Int)-1=ab.cc nb (f.length:Int)+(d:Int) from by omega];first|exact (g.ajd (c9 aaX) E).symm|(rw [rQ];exact (g.aje (fun au=>absurd (dp au) aaX) E).symm)):o:=c
def abv(c:o:=by have nf:g.n9 h q id aE code aa aP=(([]:List aK)++[(⟨8,q.x,h.al,aP,0,aE,aa⟩:aK)])++[(⟨7,q.x,h.al,id,code,aE,1⟩:aK)]:=zo;have dx:=g.J7 q2 ag Af n_ (show g.jL a8.cL.bg a8.cL.cr id code≠0 from LO);rw [nf,show g.jL a8.cL.bg a8.cL.cr id code=7 from fL] at dx;exact dx):o:=c
def abw(c:o:=by have nf:g.n9 h q id aE code aa aP=(([]:List aK)++[(⟨8,q.x,h.al,aP,0,aE,aa⟩:aK)])++[(⟨7,q.x,h.al,id,code,aE,1⟩:aK)]:=zo;have dx:=g.J7 q2 ag Af n_ (show g.jL a8.cL.bg a8.cL.cr id code≠0 from LO);rw [nf,show g.jL a8.cL.bg a8.cL.cr id code=1 from fL] at dx;exact dx):o:=c
def Rz(c:o:=by have nf:g.n9 h q id aE code aa aP=([]:List aK)++[(⟨7,q.x,h.al,id,code,aE,1⟩:aK)]:=zo;exact (g.Yx q2 ag Af n_ fL).trans (by rw [nf])):o:=c
def zk(c:o:=by have e4:=rW;have dx:=ao.cd;(try dsimp only);omega):o:=c
def v_(c:o:=by have au:=(cN.k.ff _ _ bq).2.2.c2;omega):o:=c
def abx(c:o:=by have e4:=ao.A;have fe:=kv (fun e:T=>!decide (g.ew e (g.later q.x 1)=0)) q.A;have h4_:=dz List.length hea;have mH:=dz List.length hfa;simp only [fc,ib] at h4_ mH;have sJ:=kv (fun e:T=>decide (g.ew e (g.later q.x 1)=0)) q.A;have qY:=g.w1 mj sQ;have z7:=ao.jq;have h9_:=ao.bf.gk;(try dsimp only);(try simp only [eh,e6,fq]);omega):o:=c
def DU(c:o:=by first|omega|(have I3:=g.GB.1 (bO:g.hi j 1 6=true);omega)):o:=c
def aby(c:o:=by have nf:g.n9 h q id aE code aa aP=([]:List aK)++[(⟨7,q.x,h.al,id,code,aE,1⟩:aK)]:=zo;have dx:=g.J7 q2 ag Af n_ (show g.jL a8.cL.bg a8.cL.cr id code≠0 from LO);rw [nf,show g.jL a8.cL.bg a8.cL.cr id code=7 from fL] at dx;exact dx):o:=c
def abz(c:o:=by have nf:g.n9 h q id aE code aa aP=([]:List aK)++[(⟨7,q.x,h.al,id,code,aE,1⟩:aK)]:=zo;have dx:=g.J7 q2 ag Af n_ (show g.jL a8.cL.bg a8.cL.cr id code≠0 from LO);rw [nf,show g.jL a8.cL.bg a8.cL.cr id code=1 from fL] at dx;exact dx):o:=c
def G9(c:o:=by unfold g.gD;(repeat' split)<;>first|rfl|(exfalso;omega)|(simp only [tr];omega)):o:=c
def qJ(c:o:=by rw [g.Dg,ao.n];rfl):o:=c
def RA(c:o:=by first|omega|(have e4:=ab.gP H (dr:=2147483647) bd;have dx:=ab.gP s (dr:=2147483647) bd;first|omega|(have Wc:=g.div_bnd2 e4 dx bO;omega))):o:=c
def abA(c:o:=by have oG:g.m_ h q a8.cL.e=(c0,fm,gG,c2):=g_.done E;have pN:(g.l1 h q.d q.y a8.cL.e q.x).1≠0:=bO;unfold g.m_ at oG;rw [show (g.l1 h q.d q.y a8.cL.e q.x).2=[] from g.asB pN] at oG;simp only [g.rD,aaq,tr] at oG;obtain ⟨rfl,rfl,rfl,rfl⟩:=oG;exact g.aiy ft n_ n' pN):o:=c
def LJ(c:o:=by first|omega|(simp only [eh,e6,fq];omega)|(have au:=IU.len;simp only [eh,e6,fq] at au;omega)):o:=c
def RB(c:o:=by first|omega|(have Fo:=ad.length_eq;omega)|(have Fo:=ad.length_eq;simp only [ib];omega)|(have Fo:=ad.length_eq;simp only [ib] at *;omega)):o:=c
def LL(c:o:=by first|omega|(have au:=ac.len;omega)|(have au:=bB.len;omega)|(simp only [eh,e6,fq];omega)):o:=c
def DV(c:o:=by have au:=hu.length_eq;simp only [e6] at au;omega):o:=c
def DW(c:o:=by rw [bw];exact (ab.YQ (ab.awA E)).symm):o:=c
def abB(c:o:=by have oG:g.m_ h q a8.cL.e=(c0,fm,gG,c2):=g_.done E;have pN:¬(g.l1 h q.d q.y a8.cL.e q.x).1≠0:=bO;have I3:ih=c2.foldl (fun f F=>bj.add f F id) q.j:=(by rw [hfo,ir E]);rw [I3];exact g.aiB ft n_ n' pN oG q5 gj):o:=c
def RC(c:o:=by first|omega|(have au:=g.JR (left:=s) (jr:=d);rw [show ab.cc s 1099511627776=ab.h1 s from rfl] at au;omega)):o:=c
def G_(c:o:=by unfold g.hQ;(repeat' split)<;>first|rfl|(exfalso;omega)):o:=c
def abC(c:o:=by dsimp only;rw [←g.Pd (z:=(fun e=>g.ek (g.later N.x 1) h.al (e,g.ew e (g.later N.x 1)))) (d:=b) E,←g.Pd (z:=(fun e=>g.eB h.al N.d (e,g.ew e (g.later N.x 1)))) (d:=b) E,←hes,←At];exact hlr24):o:=c
def abD(c:o:=by have pN:g.iU q.x q.d.aa am a1=2:=(by have sJ:q.d.aa≤am:=bO;unfold g.iU;rw [be bO,be (by unfold ab.r6;simp;omega)]);have dx:=g.YA (bM:=bM) q2 cN (by rw [pN];decide);rw [pN] at dx;exact dx):o:=c
def RD(c:o:=by first|omega|(simp only [ol];omega)|(have au:=(g.w1 mj sQ).2.2.2;have z7:=ao.jq;have h9_:=ao.bf.gk;omega)):o:=c
def abE(c:o:=by rw [ci];first|exact (dV.ahq (Ky ji) E E (by rw [←ci];assumption)).symm|exact (dV.ahp (Ky ji) (fun au=>by first|(have:=au.1;omega)|(have:=au.2.1;omega)|(rw [←ci] at au;exact au.2.2 bO))).symm):o:=c
def qK(c:o:=by first|rfl|omega):o:=c
def abF(c:o:=by have e4:=bn.YB (f:=c2);have dx:=g_.w7;have sJ:=g.r7 (fun i=>g.fX i d.aR e.am x e.ck (g.fI y h.bD i.O e.am x)) h.bb;have h9_:=bf.aS;show (bn.rising c2).length≤100;omega):o:=c
def LM(c:o:=by first|omega|(have e4:=bc.Xq;have dx:=bc.cW;simp only [eh,fq];omega)):o:=c
def zl(c:o:=by rw [(Pu J)];decide):o:=c
def RE(c:o:=by intro ar bI;simp only [fb,oq,or_false] at bI;rcases bI with rfl|rfl<;>exact QG aBF):o:=c
def LN(c:o:=by have e4:=ao.A;(try dsimp only);simp only [lK,eh,e6,fq];omega):o:=c
def G'(c:o:=by unfold g.lB;split<;>first|rfl|(exfalso;omega)):o:=c
def abG(c:o:=by (try dsimp only);have e4:=ao.bf.Au;have dx:=g.O7 q.x 1;have fe:=ao.A;have h4_:=ao.jq;have mH:=ao.bf.gk;have qY:=kv (fun e:T=>!decide (g.ew e (g.later q.x 1)=0)) q.A;omega):o:=c
def DX(c:o:=by have e4:=a6.S;have dx:=bf.mm;omega):o:=c
def abH(c:o:=by have oG:g.m_ h q a8.cL.e=(c0,fm,gG,c2):=g_.done E;have pN:¬(g.l1 h q.d q.y a8.cL.e q.x).1≠0:=bO;have Fo:c2=[]:=uO.1 E;subst Fo;exact g.Ui ft n_ n' pN oG):o:=c
def RF(c:o:=by have au:=g.GB.1 (bO:g.hi code 1 10=true);have dx:g.te.length=10:=rfl;omega):o:=c
def mT(c:o:=by simp [*]):o:=c
def zm(c:o:=by simp [row,Value.ownBlock]):o:=c
def zn(c:o:=by have au:=ao.bf.Fw;omega):o:=c
def Ha(c:o:=by first|omega|(have Fo:=ad.length_eq;omega)):o:=c
def RG(c:o:=by unfold g.rd;first|(simp_all [g.J0];done)|(simp_all [g.J0];intro au;omega)):o:=c
def abI(c:o:=by have pN:g.iU q.x q.d.aa am a1=3:=(by unfold g.iU;rw [ee bO]);have dx:=g.YA (bM:=bM) q2 cN (by rw [pN];decide);rw [pN] at dx;exact dx):o:=c
def LO(c:o:=by show g.jL a8.bg a8.cr id code≠0;rw [fL];decide):o:=c
def abJ(c:o:=by first|omega|(have e4:=dz List.length hes;simp only [fc,ib,eh] at e4;have dx:=aW.A.S;have fe:=bf.mm;have h4_:=g.sY aW.b.av;have mH:=bf.gk;omega)):o:=c
def zo(c:o:=by simp [g.n9,gi,ag]):o:=c
def abK(c:o:=by first|omega|(have au:=dV.apf (L:=(f_ f)) (v:=v) (n:=n) (A:=A) (by rw [←qu];assumption);omega)|(have au:=dV.TT (L:=(f_ f)) (z:=(n:Int));omega)):o:=c
def RH(c:o:=by first|omega|(simp;done)|(simp;omega)|(simp at ca ⊢;omega)|(rw [ca];simp)):o:=c
def abL(c:o:=by first|omega|(have au:=dV.awX (L:=(f_ f)) (b:=d) (A:=A) (by rw [←qu];assumption);omega)|(have au:=dV.TT (L:=(f_ f)) (z:=(d:Int));omega)):o:=c
def zp(c:o:=by clear aW ca;simp_all):o:=c
def LP(c:o:=by simp only [k8,ri,jV,(aW.b.k.one ag)]<;>rfl):o:=c
def abM(c:o:=by have e4:=ao.A;have dx:=ao.cd;have sJ:=kv (fun e:T=>decide (g.ew e (g.later q.x 1)=0)) q.A;(try dsimp only);(try simp only [fq]);omega):o:=c
def zf(c:o:=by have au:=ao.A;omega):o:=c
def aaF(c:o:=by rw [ci];first|exact (dV.apv (by rw [CB];exact dz some bO)).symm|exact (dV.apu (by rw [CB];exact dz some bO)).symm):o:=c
def Rc(c:o:=by rw [bw];exact (ab.YQ (by rw [ab.ZJ E];exact Ak)).symm):o:=c
def aaG(c:o:=by have au:=ab.Kd y;have dx:=kv (ab.kr bD x) (ab.row y);first|omega|(show (ab.all y bD x).length≤1000;unfold ab.all;omega)):o:=c
def vX(c:o:=by rw [ib];omega):o:=c
def aaH(c:o:=by first|omega|(have dx:=aW.A.S;have fe:=bf.mm;have h4_:=g.sY aW.b.av;have mH:=bf.gk;first|omega|(simp only [eh] at *;omega))):o:=c
def DJ(c:o:=by dsimp only;rw [gI];omega):o:=c
def tu(c:o:=by rw [ag];rfl):o:=c
def aaI(c:o:=by first|omega|(have z7:=dz List.length bw;have sJ:=g.agq (y:=y) (bD:=bD) (x:=x) (s:=b);simp only [eh,e6,fq];omega)):o:=c
def aaJ(c:o:=by first|omega|(simp only [eh,e6,fq];omega)|(have au:=g.OT (af:=af) (d:=d);rw [vk];simp only [eh,e6,fq];omega)):o:=c
def GY(c:o:=by simp only [eh,e6,fq];omega):o:=c
def Rd(c:o:=by rw [bI.x,bI.aa];exact agN ⟨by decide,by decide⟩):o:=c
def Lg(c:o:=by simp only [k8,ri,jV,a8.ok]<;>rfl):o:=c
def kf(c:o:=by rfl):o:=c
def aaK(c:o:=by rw [ci];first|exact (bj.QD dJ bO).symm|exact (bj.QC dJ (by first|assumption|omega)).symm):o:=c
def DK(c:o:=by rw [bc] at ac;cases ac):o:=c
def Re(c:o:=by show ((Ko.b7.length:Nat):Int)=_;rw [hrl7];exact aW.gQ):o:=c
def Lh(c:o:=by have e4:=bc.an;have dx:=bc.ih;omega):o:=c
def aaL(c:o:=by first|omega|(have au:=g.av2 ad E;omega)|(have au:=g.U2 (v:=pV) (x:=x) (d:=d);rw [vk];omega)):o:=c
def zg(c:o:=by simpa using N6):o:=c
def aaM(c:o:=by rw [ci];first|exact (bj.aiG dJ bO).symm|exact (bj.aiF dJ (by first|assumption|omega)).symm):o:=c
def aaN(c:o:=by first|omega|(simp only [eh,e6,fq];have au:=g.Kp (b7:=b7) (z:=z) (s:=(d:Int)) E;rw [bw];omega)):o:=c
def sg(c:o:=by simp [c]):o:=c
def vY(c:o:=by rw [bq];rfl):o:=c
def vZ(c:o:=by rw [hf];rfl):o:=c
def Rf(c:o:=by have V':([cb,bJ,bR,b4,bY,b_,cy]).length=7:=rfl;omega):o:=c
def Li(c:o:=by first|omega|(rw [bj.I_];omega)):o:=c
def aaO(c:o:=by first|omega|(have e4:([O,bS,cb,bJ,bR,b4,bY,b_,cy]:List Int).length=9:=rfl;have dx:=g.Z5;omega)):o:=c
def zh(c:o:=by simpa using bI):o:=c
def aaP(c:o:=by have aAd:=ab.gP l (dr:=2147483647) bd;have h_b:=ab.gP p (dr:=2147483647) bd;omega):o:=c
def aaQ(c:o:=by have sJ:¬q.d.aa≤am:=bO;unfold g.iU;rw [be bO,ee (by unfold ab.r6;simp;omega)]):o:=c
def v1(c:o:=by simp;omega):o:=c
def aaR(c:o:=by (try dsimp only);rw [g.asA ko E,←g.avM (d:=d) E,←hss];exact ⟨_,rfl,rfl⟩):o:=c
def aaS(c:o:=by rw [←g.H6 (e:=ab.cc aa (f.length:Int)+1+(d:Int)) h9 E E,←Ag,←rP];assumption):o:=c
def xB(c:o:=by rw [Cu];rfl):o:=c
def aaT(c:o:=by have e4:=ad.length_eq;simp only [e6] at e4;have dx:=a6.S;show (cU.length:Int)≤_;omega):o:=c
def aaU(c:o:=by rw [AG _ _ (et E) (et E)];exact mg.step E hbb bO E E (et E) (et E)):o:=c
def aaV(c:o:=by rw [ci];first|exact (bn.QD jj E).symm|exact (bn.QC jj E).symm):o:=c
def aaW(c:o:=by first|omega|(simp only [ol];omega)|(rw [bp,fc,dV.PE bw];simp only [e6,fq];omega)):o:=c
def DM(c:o:=by rw [ci,ir E]):o:=c
def aaX(c:o:=by rw [←g.H6 (e:=ab.cc nb (f.length:Int)+(d:Int)) h9 E E,←Ag];assumption):o:=c
def Lj(c:o:=by rw [cZ.size];have:=fO.le;omega):o:=c
def aaY(c:o:=by have e4:=vi.len;have dx:=vi.Jz;have fe:=g.sY cN.av;have h4_:=bf.gk;omega):o:=c
def aaZ(c:o:=by simp only [aQ.right, *,KQ,Bw,jV,QK,decide_true,decide_false,K9,Q1]):o:=c
def Lk(c:o:=by simp [ed,dd.pi,dd.kZ, *]):o:=c
def BB(c:o:=by rw [c];decide):o:=c
def Ll(c:o:=by first|rfl|simp only [ol]):o:=c
def xC(c:o:=by simp [bI]):o:=c
def GZ(c:o:=by exact (nE).2.2.2):o:=c
def DN(c:o:=by exact (nE).1):o:=c
def aa0(c:o:=by rw [bw];first|exact (ab.agp dJ bO).symm|exact (ab.ago dJ bO).symm):o:=c
def aa1(c:o:=by have au:=ao.j;have dx:=bj.tl (f:=q.j) (i:=id);(try dsimp only);omega):o:=c
def Rg(c:o:=by first|rfl|(simp only [*];rfl)|simp [*]):o:=c
def aa2(c:o:=by simp only [eh,e6,fq];exact g.Tr cF (fun au=>absurd (dp au) bO)):o:=c
def DO(c:o:=by simpa using ag):o:=c
def DP(c:o:=by rw [dI.EF,aS]):o:=c
def Lm(c:o:=by have:=(dD.1 ag).1;omega):o:=c
def Rh(c:o:=by have au:=(bn.AM q7).2 bh;omega):o:=c
def aa3(c:o:=by first|omega|(have au:=ab.gP s (bd:(0:Int)≤1099511627776);omega)):o:=c
def G1(c:o:=by rw [fc];exact av):o:=c
def aa4(c:o:=by cases hg<;>first|(simp [Value.oneCell'] at n8;done)|(kernel_rfl;done)):o:=c
def Ri(c:o:=by have au:=g.XF (s:=b_);omega):o:=c
def aa5(c:o:=by cases fV<;>first|(simp [Value.oneCell'] at a6;done)|(kernel_rfl;done)):o:=c
def Ln(c:o:=by have e4:=bf.kY;omega):o:=c
def DQ(c:o:=by simp [vx]):o:=c
def aa6(c:o:=by have e4:=Fm.len;first|omega|(simp only [eh,e6,fq];omega)):o:=c
def aa7(c:o:=by first|omega|(have au:=g.JR (left:=s) (jr:=d);omega)):o:=c
def Rj(c:o:=by rw [bw,show s=8 from by omega]):o:=c
def G2(c:o:=by simpa using ad):o:=c
def G3(c:o:=by rw [H2]):o:=c
def Lp(c:o:=by have:=bf.gB;omega):o:=c
def G4(c:o:=by simpa using c):o:=c
def Rk(c:o:=by rw [lQ,ee rfl];rfl):o:=c
def G5(c:o:=by exact sizeOf3):o:=c
def aa8(c:o:=by have e4:=ab.Gt l;have dx:=ab.Gt p;omega):o:=c
def aa9(c:o:=by have e4:=bc.cq;have dx:=bc.aoU;simp [ab.MD];omega):o:=c
def Lq(c:o:=by rw [V.aT Q,av]):o:=c
def Lr(c:o:=by rw [qX,kX];rfl):o:=c
def aa_(c:o:=by rw [g.Be,eh,GL];have au:=ao.bf.mm;omega):o:=c
def Ls(c:o:=by exact zeroValue3):o:=c
def DR(c:o:=by simp [Q]):o:=c
def aa'(c:o:=by simp [a6]):o:=c
def DS(c:o:=by rw [show (f_ f).length=d from by omega];exact bw):o:=c
def aba(c:o:=by exact qh):o:=c
def abb(c:o:=by rw [Ze,(Kl dv).2.1,(Kl dv).2.2]):o:=c
def Lt(c:o:=by first|omega|(simp only [lK,eh,e6,fq];omega)):o:=c
def abc(c:o:=by rw [Iz];decide):o:=c
def abd(c:o:=by first|omega|(simp only [eh,fq,ib,aw];omega)):o:=c
def Rl(c:o:=by first|omega|(cases au;done)|(simp at au;omega)):o:=c
def abe(c:o:=by rw [bI.A,bf.hD];decide):o:=c
def abf(c:o:=by have au:=bU;rw [ir E] at au;exact au.symm):o:=c
def Lu(c:o:=by have e4:=ao.bf.kY;have dx:=ao.bf.gk;omega):o:=c
def Lv(c:o:=by simpa using bA):o:=c
def Lw(c:o:=by simpa using S):o:=c
def Lx(c:o:=by simpa using ac):o:=c
def abg(c:o:=by simpa using J):o:=c
def Rm(c:o:=by simpa using G):o:=c
def Rn(c:o:=by first|omega|(have au:=ab.Gt s;omega)):o:=c
def Ro(c:o:=by simpa [nI] using ad):o:=c
def abh(c:o:=by simp [Region.wanted]):o:=c
def Rp(c:o:=by rw [←bU];exact hx4):o:=c
def abi(c:o:=by rw [r3 ca,gI];exact oQ _):o:=c
def Rq(c:o:=by rw [I4];exact gk):o:=c
def abj(c:o:=by have au:=(g.w1 mj sQ).2.2.2;omega):o:=c
def abk(c:o:=by exact (wY).2.2.2):o:=c
def Rr(c:o:=by rw [←Int.sub_emod_right,aBE E E]):o:=c
def abl(c:o:=by rw [hss];exact (g.Ql yo).symm):o:=c
def G6(c:o:=by rintro _ _ ⟨_,ad,rfl⟩;exact c _ _ ad):o:=c
def abm(c:o:=by simpa [nI] using c):o:=c
def abn(c:o:=by simp only [lK,eh,e6,fq] at *;omega):o:=c
def Rs(c:o:=by simp [R]):o:=c
def Rt(c:o:=by rw [ee (ke.1 (fa (p4 e_)))];rfl):o:=c
def abo(c:o:=by rw [ir E,ir E] at ci;exact ci):o:=c
def abp(c:o:=by rw [Q,Bv];omega):o:=c
def abq(c:o:=by rw [I4,gk];simp):o:=c
def abr(c:o:=by rw [hss];exact (g.Ql jj).symm):o:=c
def Ru(c:o:=by rw [hss];exact (g.Ql ji).symm):o:=c
def abs(c:o:=by rw [OJ,g.Be];have au:=ao.A;omega):o:=c
def abt(c:o:=by simp only [k8,ri,jV,kF]<;>rfl):o:=c
def Lz(c:o:=by rw [ag,←rU];rfl):o:=c
def Rv(c:o:=by rw [jk];simp [O9,yw ae e Q]):o:=c
def aB6(c:o:=by rintro _ _ ⟨L,rfl,rfl⟩;exact c L):o:=c
def aBF(c:o:=by simp [hA.C]):o:=c
def aBR(c:o:=by rw [hea,ir E]):o:=c
end
def iN{o:Prop}(c:o:=by
 refine aF ?_
 exact aO ⟨(by rw [aQ.ahF (by simp only [*,jV,QK,KQ,Bw])];rfl),rfl⟩):o:=c
def zq{o:Prop}(c:o:=by exact aO ⟨by first|(exfalso;omega)|(rw [g.Qv bB G ce ao,show g.ka tk=-1 from by unfold g.ka;(repeat' split)<;>omega];simp only [ed];(repeat' split)<;>first|rfl|(exfalso;omega)|exact absurd trivial bO),rfl⟩):o:=c
def p_{o:Prop}(c:o:=by exact aO ⟨(by first|(rw [ee (g.PA.2 E)];rfl)|(rw [be (fun au=>by have dx:=(g.PA).1 au;omega)];rfl)),rfl⟩):o:=c
def Hc{o:Prop}(c:o:=by exact aO ⟨(by have V':([cb,bJ,bR,b4,bY,b_,cy]).length=7:=rfl;have hk7_:d=7:=E;have a0_:=fw 0 cb E rfl;have a1_:=fw 1 bJ E rfl;have a2_:=fw 2 bR E rfl;have a3_:=fw 3 b4 E rfl;have a4_:=fw 4 bY E rfl;have a5_:=fw 5 b_ E rfl;have a6_:=fw 6 cy E rfl;first|(rw [ee (g.Pz.2 E)];rfl)|(rw [be (fun au=>by have dx:=g.Pz.1 au;omega)];rfl)),rfl⟩):o:=c
def rn{o:Prop}(c:o:=by exact aO ⟨(by first|(rw [ee (g.C_.2 E)];rfl)|(rw [be (fun au=>by have dx:=(g.C_).1 au;omega)];rfl)),rfl⟩):o:=c
def Hd{o:Prop}(c:o:=by
 refine aF ?_
 exact aO ⟨(by first|(simp only [ed,aQ.right, *,KQ,Bw,jV,QK,decide_true,decide_false,K9,Q1,ne_eq,decide_not];done)|(have au:=ke.1 (bO:¬i.O≠al);simp only [ed,aQ.right,au, *,KQ,Bw,jV,QK,decide_true,decide_false,K9,Q1])),rfl⟩):o:=c
def LX{o:Prop}(c:o:=by exact aO ⟨(⟨N.x,N.bS,N.aY,N.bb,N.d,N.bz,N.A,N.af,N.cX,N.dc,N.cd,N.y⟩:g.aO),_,_,([]:List aK),([]:List bk),1,⟨⟨aW.d,aW.bz,aW.A,aW.b,aW.e8,aW.nH,aW.hn,aW.fG,aW.i',aW.gQ,aW.m'⟩,⟨by have au:=ca.t;dsimp only;omega,by have au:=ca.i;dsimp only;omega,by have au:=ca.j;dsimp only;omega,by omega⟩,.inl ⟨zp,rfl,rfl,rfl,rfl⟩⟩,rfl,rfl⟩):o:=c
def jX{o:Prop}(c:o:=by exact aO ⟨(by rw [h7.MQ E];rfl),rfl⟩):o:=c
def zr{o:Prop}(c:o:=by exact aO ⟨by rw [g.aiu bB G];simp only [ed];(repeat' split)<;>first|rfl|(exfalso;omega)|simp_all,rfl⟩):o:=c
def Hf{o:Prop}(c:o:=by exact aO ⟨by first|(exfalso;omega)|(rw [g.Qv bB G ce ao,show g.ka tk=1 from by unfold g.ka;(repeat' split)<;>omega];simp only [ed];(repeat' split)<;>first|rfl|(exfalso;omega)|exact absurd trivial bO),rfl⟩):o:=c
def abN{o:Prop}(c:o:=by exact K.uz rfl rfl ⟨(by rw [be (by rw [g.arj E];decide)];rfl),rfl⟩):o:=c
def LQ{o:Prop}(c:o:=by
 refine K.hW 33 Tryz.bE aN ?_
 refine P Y6 ?_
 refine aF ?_
 exact aO (by have dk:g.je h q id aE O am a1 bM=(q,([]:List aK),([]:List bk),1):=g.atG yl;rw [dk];exact ⟨_,_,ah,aJ,bu,rfl,⟨ao.n,ao.b1,ot⟩,rfl⟩)):o:=c
def ab4{o:Prop}(c:o:=by
 refine I 1 ?_
 rw [show bu.set eb a8=bu from g.Qe iy]
 refine aF ?_
 exact aO (by have dk:g.iX h q id aE O code aa aP aR=(({ q with n:=(q.n.set eb ⟨a8.cL.e,a8.cL.bg,g.oa a8.cL.bg a8.cL.cr id⟩),j:=(bj.c8 q.j id),y:=(ab.fA q.y aE aa aP q.x).1 }:g.cu),(([]:List aK)++[(⟨8,q.x,h.al,aP,0,aE,aa⟩:aK)])++[(⟨7,q.x,h.al,id,code,aE,1⟩:aK)],([]:List bk),0):=Rx;rw [dk];exact ⟨_,_,({ ah with fj:=y6,hp:=fd }:g.ct),aJ,bu,rfl,⟨(g.YC ao.n iy bf),ao.b1,ot⟩,rfl⟩)):o:=c
def acb{o:Prop}(c:o:=by
 refine aU ?_ ?_
 ·
   refine P rC ?_
   refine aF ?_
   intros
   exact aO (by have oG:=(p4 fp);simp only [decide_eq_false_iff_not,decide_eq_true_eq,oR,and_true] at oG;have kp:g.gD cA held e ev=(g.ka e,cA,g.fv held 1):=G9;rw [kp];exact ⟨rfl,rfl⟩)
 ·
   refine P rC ?_
   refine aF ?_
   intros
   exact aO (by have oG:=(p4 fp);simp only [decide_eq_false_iff_not,decide_eq_true_eq,oR,and_true] at oG;have kp:g.gD cA held e ev=(0,cA,g.fv held 1):=G9;rw [kp];exact ⟨rfl,rfl⟩)):o:=c
def BE{o:Prop}(c:o:=by exact aO ⟨by first|(simp [ed,g.fX, *];done)|(simp only [ed,g.fX];(repeat' split)<;>first|rfl|(exfalso;omega)|simp_all),rfl⟩):o:=c
def acs{o:Prop}(c:o:=by
 refine aU ?_ ?_
 ·
   refine aF ?_
   intro _ e_
   exact aO ⟨(by rw [be (dp (c9 e_))];rfl),rfl⟩
 ·
   refine aD 0 ?_
   intro _ e_
   refine aU (fun jP=>?_) (fun jP=>?_)
   ·
     refine aF ?_
     exact aO ⟨Rt,rfl⟩
   ·
     refine aU ?_ ?_
     ·
       refine aF ?_
       intros
       exact aO ⟨Rt,rfl⟩
     ·
       intro iV
       exact absurd ((g.Jt (p:=p) (i:=i) (Z:=Z) (f:=f) (al:=al)).2 ⟨ke.1 (fa (p4 e_)),(by have au:=fa (p4 jP);omega),(by have au:=fa (p4 iV);omega)⟩) (by rw [ko];decide)):o:=c
def Hb{o:Prop}(c:o:=by
 refine aF ?_
 exact aO ⟨(by rw [aQ.MN h3 (.inr aaZ)];rfl),rfl⟩):o:=c
def RT{o:Prop}(c:o:=by
 refine K.eV 10 rfl ?_
 refine w.n (U.hJ rfl rfl E) rfl ?_
 refine w.dw 2 rfl ?_
 exact K.ms ⟨s+1,X,v⟩ [0,1,10,11,12] [0] [1,2] ⟨by omega,(by rw [bw];exact (ab.at' (by rw [ab.ZJ E];exact Ak)).symm),hq⟩ kR ⟨rfl,(hM E),trivial⟩ rfl rfl):o:=c
def acS{o:Prop}(c:o:=by
 refine I 1 ?_
 intros
 obtain ⟨eE,jj⟩:=c4 (f:=f) (b:=d) E
 refine aU ?_ ?_
 ·
   refine aD 3 ?_
   intros
   refine w.f (aq.fs bH [eE] gz dt iF rfl rfl rfl aN rfl rfl) rfl ?_
   rintro j1 _ rfl
   refine aD 2 ?_
   intro k'
   exact da ⟨d+1,k',v++([eE])⟩ ⟨by omega,aaV,hq⟩
 ·
   refine I 1 ?_
   intros
   exact da ⟨d+1,X,v⟩ ⟨by omega,aaV,E⟩):o:=c
def ac2{o:Prop}(c:o:=by
 refine I 1 ?_
 rw [show bu.set eb a8=bu from g.Qe iy]
 refine aF ?_
 exact aO (by have dk:g.iX h q id aE O code aa aP aR=(({ q with n:=(q.n.set eb ⟨a8.cL.e,a8.cL.bg,g.oa a8.cL.bg a8.cL.cr id⟩),j:=(bj.c8 q.j id),y:=(ab.fA q.y aE aa aP q.x).1 }:g.cu),([]:List aK)++[(⟨7,q.x,h.al,id,code,aE,1⟩:aK)],([]:List bk),0):=Rz;rw [dk];exact ⟨_,_,({ ah with fj:=y5,hp:=fd }:g.ct),aJ,bu,rfl,⟨(g.YC ao.n iy bf),ao.b1,ot⟩,rfl⟩)):o:=c
def RX{o:Prop}(c:o:=by exact bl.PV (k:=1) rfl rfl rfl (Fin.ret (ho:=[.cell 6 3]) rfl [_] ⟨⟨_,_,0,0,_,rfl,(eZ.ai 3 rfl),rfl,(fr.one Tryz.isAgg3 rfl)⟩,trivial⟩ [] bd [] rfl ⟨dz (Value.int .i64) (by first|exact Ww|exact cF),rfl⟩)):o:=c
def R3{o:Prop}(c:o:=by
 clear bc
 induction lD generalizing ae with
 | nil=>cases ae<;>simp_all
 | cons n lD b6 =>
   cases ae with
   | nil=>simp at ad
   | cons A ae =>
     simp only [kO,oR,tr] at ad ⊢
     obtain ⟨⟨G,J⟩,aA⟩:=ad
     refine ⟨?_,b6 ae aA⟩
     rw [V.aT J,G]):o:=c
def R4{o:Prop}(c:o:=by
 refine I 1 ?_
 exact da ⟨d+1,X,v⟩ ⟨by omega,abE,E⟩):o:=c
def adb{o:Prop}(c:o:=by
 refine aF ?_
 exact aO ⟨_,(by have IY:=g.Gu (cA:=cA) (held:=held) (m:=(g.gn (g.gd (g.h0 aJ) (aJ.length:Int)) cb bJ)) (ev:=b_);have n7:(g.hQ ap S aa b4 bY bR (g.gD cA held (g.gn (g.gd (g.h0 aJ) (aJ.length:Int)) cb bJ) b_).1)=(g.ma ap S aa bY bR):=G_;have hE_:g.lB aa (g.ma ap S aa bY bR) aP=(ab.cc (aP+1) 4294967295):=G';rw [n7,hE_,show (!decide ((g.ma ap S aa bY bR)=aa))=decide ((g.ma ap S aa bY bR)≠aa) from by simp];rfl),rfl⟩):o:=c
def R5{o:Prop}(c:o:=by
 refine K.hW 23 Tryz.bE aN ?_
 refine P Y5 ?_
 refine aF ?_
 exact aO (by have dk:g.iX h q id aE O code aa aP aR=(q,([]:List aK),([]:List bk),1):=g.atF yl;rw [dk];exact ⟨_,_,ah,aJ,bu,rfl,⟨ao.n,ao.b1,ot⟩,rfl⟩)):o:=c
def adc{o:Prop}(c:o:=by
 refine aF ?_
 exact aO ⟨_,(by have IY:=g.Gu (cA:=cA) (held:=held) (m:=(g.gn (g.gd (g.h0 aJ) (aJ.length:Int)) cb bJ)) (ev:=b_);have n7:(g.hQ ap S aa b4 bY bR (g.gD cA held (g.gn (g.gd (g.h0 aJ) (aJ.length:Int)) cb bJ) b_).1)=(g.ma ap S aa bY bR):=G_;have hE_:g.lB aa (g.ma ap S aa bY bR) aP=aP:=G';rw [n7,hE_,show (!decide ((g.ma ap S aa bY bR)=aa))=decide ((g.ma ap S aa bY bR)≠aa) from by simp];rfl),rfl⟩):o:=c
def R7{o:Prop}(c:o:=by exact aO ⟨(by rw [be (fun au=>by have dx:=g.Pz.1 au;have V':([cb,bJ,bR,b4,bY,b_,cy]).length=7:=rfl;rcases (show d=0∨d=1∨d=2∨d=3∨d=4∨d=5∨d=6 from by omega) with rfl|rfl|rfl|rfl|rfl|rfl|rfl<;>(have h4_:=p8 h3;omega))];rfl),rfl⟩):o:=c
def R8{o:Prop}(c:o:=by
 refine aF ?_
 exact aO (by have dk:g.je h q id aE O am a1 bM=(q,([]:List aK)++[(⟨2,q.x,h.al,id,0,0,0⟩:aK)],([]:List bk),0):=g.atH q2 cN;rw [dk];exact ⟨_,_,ah,aJ,bu,rfl,⟨ao.n,ao.b1,ot⟩,rfl⟩)):o:=c
def R9{o:Prop}(c:o:=by exact K.uz rfl rfl ⟨(by first|(rw [g.ari E];rfl)|(rw [ee (g.are E ci E)];rfl)|(simp only [ed];rw [be (g.UE bO),be (by rw [g.arf bO bO (g.UE bO)];decide)])),rfl⟩):o:=c
def ade{o:Prop}(c:o:=by
 refine aU (fun eC=>?_) (fun eC=>?_)
 ·
   refine aU (fun fp=>?_) (fun fp=>?_)
   ·
     refine aU (fun e_=>?_) (fun e_=>?_)
     ·
       refine aF ?_
       exact aO ⟨Lk,rfl⟩
     ·
       refine aF ?_
       exact aO ⟨Lk,rfl⟩
   ·
     refine aF ?_
     exact aO ⟨Lk,rfl⟩
 ·
   refine aF ?_
   exact aO ⟨Lk,rfl⟩):o:=c
def adf{o:Prop}(c:o:=by
 refine aF ?_
 intro e_
 exact aO ⟨(⟨N.x,N.bS,N.aY,N.bb,N.d,N.bz,N.A,N.af,N.cX,N.dc,N.cd,N.y⟩:g.aO),_,_,([]:List aK),([]:List bk),12,⟨⟨aW.d,aW.bz,aW.A,aW.b,aW.e8,aW.nH,aW.hn,aW.fG,aW.i',aW.gQ,aW.m'⟩,⟨by have au:=ca.t;dsimp only;omega,by have au:=ca.i;dsimp only;omega,by have au:=ca.j;dsimp only;omega,by omega⟩,.inr ⟨k,ag,.inl ⟨dp (c9 e_),rfl,rfl,rfl,rfl⟩⟩⟩,rfl,rfl⟩):o:=c
def R_{o:Prop}(c:o:=by
 rintro _ _ ⟨u4,Mc,F6,es7,fs8,gU,hR10,rfl,rfl⟩
 refine I 0 ?_
 refine w.one (ax.row 0 rfl) (fun t_=>?_)
 refine w.one (ax.row 1 rfl) (fun vb=>?_)
 refine aF ?_
 exact aO ⟨u4,_,_,es7,fs8,gU,hR10,rfl,rfl⟩):o:=c
def R'{o:Prop}(c:o:=by
 refine aF ?_
 intros
 exact aO ⟨_,_,_,e,rfl,uJ _,g.awH fw (et GY) E sX,R,rfl⟩):o:=c
def adg{o:Prop}(c:o:=by
 refine aF ?_
 exact aO (by have dk:(g.rd h q O bS [cb,bJ,bR,b4,bY,b_,cy])=(q,([]:List aK)++[(⟨10,q.x,h.al,bS,0,0,0⟩:aK)],([]:List bk),0):=RG;rw [dk];exact ⟨_,_,ah,aJ,bu,rfl,⟨ao.n,⟨ao.b1.ez,ao.b1.eA⟩,ot⟩,rfl⟩)):o:=c
def adh{o:Prop}(c:o:=by exact aO ⟨(⟨N.x,N.bS,N.aY,N.bb,N.d,N.bz,N.A,N.af,N.cX,N.dc,N.cd,N.y⟩:g.aO),_,_,([]:List aK),([]:List bk),7,⟨⟨aW.d,aW.bz,aW.A,aW.b,aW.e8,aW.nH,aW.hn,aW.fG,aW.i',aW.gQ,aW.m'⟩,⟨by have au:=ca.t;dsimp only;omega,by have au:=ca.i;dsimp only;omega,by have au:=ca.j;dsimp only;omega,by omega⟩,.inl ⟨ag,rfl,rfl,rfl,rfl⟩⟩,rfl,rfl⟩):o:=c
def adi{o:Prop}(c:o:=by
 rintro vN bQ ⟨m,B,aC,ld⟩
 cases ym:v.dst with
 | none =>
   have:=dj m B bQ ld
   rw [ym] at this
   exact this
 | some y =>
   rw [ym] at aC
   have G:=dz (fun i:Act=>i.tmps.getD y undef) aC
   simp only [vy _ _ _ _ (ao y ym),ee] at G
   rw [G]
   have:=dj m B bQ ld
   rwa [ym] at this):o:=c
def adj{o:Prop}(c:o:=by
 refine e0.n (U.fieldAddr (l0:=4) Tryz.runUnderlying66 rfl dt rfl rfl rfl) rfl ?_
 refine e0.A (aV.br 0 ds rfl rfl rfl) rfl ?_
 refine e0.n (U.gtr rfl rfl) rfl ?_
 refine aU ?_ ?_
 ·
   refine aF ?_
   intros
   exact aO ⟨by simp [ed,g.ew, *],rfl⟩
 ·
   refine aF ?_
   intros
   exact aO ⟨by simp [ed,g.ew, *],rfl⟩):o:=c
def xF{o:Prop}(c:o:=by exact K.uz rfl rfl ⟨by simp [ed,g.mP, *],rfl⟩):o:=c
def si{o:Prop}(c:o:=by
 cases c
 intro j
 simp [Tryz.sizeOf3]):o:=c
def LU{o:Prop}(c:o:=by
 refine aF ?_
 exact aO ⟨by have aAs:=bf.alv;clear bf;simp_all [ed,g.nJ],rfl⟩):o:=c
def adk{o:Prop}(c:o:=by
 refine aF ?_
 exact aO ⟨(by simp only [ed,aQ.cg, *,decide_true,decide_false,KQ,Bw]),rfl⟩):o:=c
def adl{o:Prop}(c:o:=by
 refine bl.seq ?_
 refine bl.region ?_
 refine bX.A (aV.hh rfl (eZ.ai 3 rfl) (v:=0) (off:=0) rfl (fr.one Tryz.isAgg3 rfl)) rfl ?_
 refine bX.n (U.assign rfl) rfl ?_
 refine bX.nil ?_
 exact bl.PV (k:=1) rfl rfl rfl (Fin.ret (ho:=[.tmp 4]) rfl [_] ⟨rfl,trivial⟩ [] bd [] rfl ⟨dz (Value.int .i64) ko,rfl⟩)):o:=c
def Sa{o:Prop}(c:o:=by
 refine aF ?_
 intros
 exact aO ⟨by simp [ed,g.gn, *],rfl⟩):o:=c
def Sb{o:Prop}(c:o:=by
 refine aF ?_
 exact aO ⟨by first|(simp [ed,g.fI,ab.r6,bq, *];done)|(simp only [ed,g.fI,ab.r6,bq];congr 1;rw [KM];simp;omega),rfl⟩):o:=c
def adm{o:Prop}(c:o:=by
 refine aF ?_
 intros
 exact aO ⟨(by first|exact dz (Value.int .i64) (g.ajg dy E E).symm|exact dz (Value.int .i64) (g.UN dy (c9 aaS) E)),rfl⟩):o:=c
def adn{o:Prop}(c:o:=by exact aO (by have dk:(g.rd h q O bS [cb,bJ,bR,b4,bY,b_,cy])=(q,([]:List aK),([]:List bk),1):=RG;rw [dk];exact ⟨_,_,ah,aJ,bu,rfl,⟨ao.n,⟨ao.b1.ez,ao.b1.eA⟩,ot⟩,rfl⟩)):o:=c
def ado{o:Prop}(c:o:=by
 refine ⟨fun _ _=>trivial,?_⟩
 rw [Oper.semAt_eq b.b0 _ _ (C8 rfl),Aq,Oper.uponIn_round,fM]
 refine ⟨fun c=>(by cases c),?_⟩
 refine aan Wm ?_
 rintro r dY ⟨p,B,rfl,R,ci⟩
 exact dj _ _ (c p B R ok _ dY (V.put _ ao) ((jw.o3 ci).pk Dv))):o:=c
def LV{o:Prop}(c:o:=by
 have J:l.eval (.const (.pointer none))=.pointer none:=rfl
 simp only [execOp,c.aT Q,J,bT]
 simp [aZ]):o:=c
def adp{o:Prop}(c:o:=by
 refine aU ?_ ?_
 ·
   refine aF ?_
   intros
   exact aO ⟨(by simp only [ed,g.nw,g.hd];rw [dy.vf dJ (by simp [a7.cL, *])];rfl),rfl⟩
 ·
   refine I 1 ?_
   intros
   exact da (d+1) ⟨by omega,dy.next dJ (by simp [a7.cL, *])⟩):o:=c
def adq{o:Prop}(c:o:=by
 refine aF ?_
 intros
 exact aO ⟨by first|(exfalso;omega)|(rw [g.Qv bB G ce ao,show g.ka tk=0 from by unfold g.ka;(repeat' split)<;>omega];simp only [ed];(repeat' split)<;>first|rfl|(exfalso;omega)|exact absurd trivial bO),rfl⟩):o:=c
def LW{o:Prop}(c:o:=by exact K.l2 [0] rfl rfl rfl ⟨by simp_all [ed],by simp_all⟩):o:=c
def adr{o:Prop}(c:o:=by exact aO (by have kp:g.iv bm aR held 0 op ev=(false,aR,g.fv held 1):=BC;rw [kp];exact ⟨rfl,rfl⟩)):o:=c
def ads{o:Prop}(c:o:=by
 cases c
 exact ⟨rfl,bd,Tryz.underlying3,rfl,bd,Tryz.underlying3,rfl,bd,Tryz.underlying3,rfl,bd,Tryz.underlying3,rfl,bd,Tryz.underlying3,rfl,bd,Tryz.underlying3,rfl,bd,Tryz.underlying3,trivial⟩):o:=c
def Sc{o:Prop}(c:o:=by exact da ⟨((e+F) / 2)+1,F⟩ (dP.right (i:=(e+F) / 2) E E (.eo bO bO bO))):o:=c
def DZ{o:Prop}(c:o:=by
 simp only [binOp]
 simp [Op.equal,Op.maxDepth,aA 9999]):o:=c
def He{o:Prop}(c:o:=by
 rintro _ _ ⟨_,⟨rfl,rfl⟩,rfl⟩
 refine P lb ?_
 exact cH):o:=c
def adt{o:Prop}(c:o:=by exact aO ⟨(by simp only [ed];congr 1;unfold dd.cc;(repeat' split)<;>omega),rfl⟩):o:=c
def adu{o:Prop}(c:o:=by exact aO ⟨(by simp only [ed];congr 1;unfold ab.cc;(repeat' split)<;>omega),rfl⟩):o:=c
def adv{o:Prop}(c:o:=by
 refine aF ?_
 intros
 exact aO ⟨(by first|exact dz (Value.int .i64) (g.Uf bO).symm|(rw [g.Uh E,rQ,show ab.cc nb (f.length:Int)+(d:Int)=ab.cc aa (f.length:Int) from by omega];rfl)),rfl⟩):o:=c
def Sd{o:Prop}(c:o:=by exact da ⟨e,(e+F) / 2⟩ (dP.left (i:=(e+F) / 2) E E (.eo bO bO bO))):o:=c
def adw{o:Prop}(c:o:=by
 refine K.fg 3 1 (([]:List Int).map bH) rfl ?_
 refine aF ?_
 exact aO (dz (fun (aI:List Int)=>([row (Value.slice none 0 0) 3 1 (aI.map bH)]:List aB)) (show ([]:List Int)=dV.j5 (f_ f) z from (dV.ahs E).symm))):o:=c
def adx{o:Prop}(c:o:=by exact aO ⟨(by simp only [ed];rw [aw];congr 1;unfold g.it;congr 1;rcases mR d f.length with au|au;exact (by rw [show d=u.toNat from by omega]);exact (by rw [ir au,ir E])),rfl⟩):o:=c
def Se{o:Prop}(c:o:=by exact aO ⟨(by first|(simp_all [ed];done)|(have au:f≠t:=(fun au=>by subst au;omega);simp_all [ed])),rfl⟩):o:=c
def ady{o:Prop}(c:o:=by
 rintro _ _ ⟨Tryz.sizeOf5,Md,Tryz.func7,es8,fs9,zT,hR11,rfl,rfl⟩
 refine I 0 ?_
 refine w.one (ax.row 0 rfl) (fun vb=>?_)
 refine w.one (ax.row 1 rfl) (fun Vq=>?_)
 refine aF ?_
 exact aO ⟨Tryz.sizeOf5,_,_,es8,fs9,zT,hR11,rfl,rfl⟩):o:=c
def adz{o:Prop}(c:o:=by
 rintro _ _ ⟨dt,xJ,F5,es6,fs7,hL,hR9,rfl,rfl⟩
 refine I 0 ?_
 refine w.one (ax.row 0 rfl) (fun Aa=>?_)
 refine w.one (ax.row 1 rfl) (fun t_=>?_)
 refine aF ?_
 exact aO ⟨dt,_,_,es6,fs7,hL,hR9,rfl,rfl⟩):o:=c
def adA{o:Prop}(c:o:=by
 rintro _ _ ⟨Tryz.sizeOf2,L',F4,es5,fs6,na,hR8,rfl,rfl⟩
 refine I 0 ?_
 refine w.one (ax.row 0 rfl) (fun va=>?_)
 refine w.one (ax.row 1 rfl) (fun Aa=>?_)
 refine aF ?_
 exact aO ⟨Tryz.sizeOf2,_,_,es5,fs6,na,hR8,rfl,rfl⟩):o:=c
def LY{o:Prop}(c:o:=by
 refine aF ?_
 intros
 exact aO ⟨by rw [g.axb];simp [ed, *],rfl⟩):o:=c
def Sf{o:Prop}(c:o:=by
 refine aj.qT ?_
 refine K.fZ rfl (lZ oU) ?_
 refine I 1 ?_
 exact da (d+1) E):o:=c
def adB{o:Prop}(c:o:=by
 have rO:Addr.add ⟨L,off,none⟩ (t.toNat*H)=⟨L,off+t.toNat*H,none⟩:=by unfold Addr.add;split<;>simp_all
 simp [execOp,V.aT Q,V.aT az,Instr.indexAt,Instr.sureAddr,asIntOf,cF,W,bB,G,rO]):o:=c
def adC{o:Prop}(c:o:=by
 rintro kh _ rfl
 refine aD 3 ?_
 intro wu
 refine aL.one rfl (fun _ c=>by cases c<;>rfl) (ax.row 2 rfl) (fun Ad=>?_)
 refine aL.cq rfl (aq.gy 1 Tryz.sizeOf33 Ad rfl rfl rfl rfl) ?_
 rintro _ _ rfl
 exact cH):o:=c
def adD{o:Prop}(c:o:=by
 refine aF ?_
 exact aO ⟨_,rfl,(fun au=>⟨dd.aiT dy E Rl,Rl⟩),rfl⟩):o:=c
def adE{o:Prop}(c:o:=by
 refine I 0 ?_
 refine w.kK 6 rfl (p4 E) ?_
 refine I 0 ?_
 refine K.fZ rfl (p4 E) ?_
 refine I 2 ?_
 intro b9
 refine aF ?_
 exact aO ⟨b9,rfl,rfl⟩):o:=c
def Sg{o:Prop}(c:o:=by exact K.lE [_,_] [] rfl ⟨rfl,rfl,trivial⟩ rfl ⟨([]:List UInt8),by simp [ed,g.o9, *],rfl⟩):o:=c
def adF{o:Prop}(c:o:=by
 refine P JV ?_
 refine aF ?_
 exact aO ⟨rfl,_,_,g.y3 bO bO,R.swap bO bO,g.avZ bO bO,rfl⟩):o:=c
def LZ{o:Prop}(c:o:=by exact aO ⟨(by rw [dV.ahx (L:=(f_ f)) E];rfl),rfl⟩):o:=c
def adG{o:Prop}(c:o:=by
 unfold Oper.wp
 rw [Aq]
 refine aaA VI ?_
 rintro r bQ ⟨m,de,rfl,ad,eY⟩
 exact dj m _ bQ ⟨de,ad,rfl⟩ (CQ.step eY.aE eY.cC eY.gX (fun d R=>(eY.mu d R).symm))):o:=c
def adH{o:Prop}(c:o:=by
 refine I 0 ?_
 refine K.ef (df [(0,2),(3,1),(2,0),(4,2)]) [] Tryz.bE aN rfl ?_
 refine P CG ?_
 have E7:=g.wD (ap:=ap) (S:=S) (e:=e)
 exact cH):o:=c
def Sh{o:Prop}(c:o:=by exact aO ⟨(by simp only [ed,g.vQ,ft]<;>first|rfl|(rw [n_];simp [a7.cL, *])),rfl⟩):o:=c
def adI{o:Prop}(c:o:=by
 refine aD 1 ?_
 exact da ⟨gO+1,EVb,FVb,lc,rI,nF,i_,sd⟩ ⟨abj, mj.Qk (by rw [hy,pa];rfl) ca,hvjb⟩):o:=c
def adJ{o:Prop}(c:o:=by
 refine I 1 ?_
 refine w.A (aV.s0 (X:=.b ((cx t id).getD 0)) (A:=(cx t id).isSome) jY e2 iF rfl rfl (hS.b0 1 p rfl rfl) (by cases (cx t id)<;>rfl) rfl) rfl ?_
 exact cH):o:=c
def Si{o:Prop}(c:o:=by
 obtain ⟨v,Z,G,J⟩:=c
 cases f with
 | nil=>cases G
 | cons l p=>cases G;exact J):o:=c
def adK{o:Prop}(c:o:=by
 refine I 2 ?_
 intro b9 cS
 refine w.n (U.makeFunc [b9,cS] rfl) rfl ?_
 refine aF ?_
 exact aO ⟨b9,cS,rfl,rfl⟩):o:=c
def adL{o:Prop}(c:o:=by
 refine aF ?_
 exact aO ⟨_,(by first|assumption|(rw [uO.1 (E:u.length=0)])),(by first|assumption|exact List.Pairwise.nil),rfl⟩):o:=c
def adM{o:Prop}(c:o:=by exact aO ⟨rfl,_,_,ad,R,(by first|exact hf.Qs E E|exact hf.done E bO bO (g.TE bO)),rfl⟩):o:=c
def adN{o:Prop}(c:o:=by exact da (d+1) ⟨by omega,fun gl Iq l5 CH AK=>by rcases mR gl d with au|au;exact dy gl Iq l5 au AK;(have:gl=d:=by omega);subst this;simp_all⟩):o:=c
def adO{o:Prop}(c:o:=by
 rintro _ _ ⟨bG,fd,t5,hP,rfl,hx7,hq8,hk9,rfl⟩
 have Q:=hx7
 have ad:=hq8
 have R:=hk9
 refine aF ?_
 exact aO ⟨_,_,_,_,rfl,Q,ad,R,rfl⟩):o:=c
def adP{o:Prop}(c:o:=by exact da ⟨b+1,e9⟩ ⟨by omega,ad,bI,(by first|exact hf.first E|exact hf.done E E bO bO bO)⟩):o:=c
def Sj{o:Prop}(c:o:=by
 rcases c with ⟨_,c⟩|⟨_,c,_⟩
 · exact ⟨c.a_,c.aH⟩
 · exact absurd c aC):o:=c
def Sk{o:Prop}(c:o:=by
 refine aF ?_
 intros
 exact aO ⟨by rw [g.ag9];simp [ed, *],rfl⟩):o:=c
def adQ{o:Prop}(c:o:=by
 obtain ⟨b,ac⟩:=List.exists_mem_of_ne_nil _ G
 obtain ⟨J,aA⟩:=pt.1 ac
 exact ⟨b,kd.1 J,by simpa using aA⟩):o:=c
def adR{o:Prop}(c:o:=by
 simp only [GV]
 rw [VY u (by
   unfold Oper.looksAt
   rw [bq]
   exact Lf _ (by simp only [bA];simp))]):o:=c
def L0{o:Prop}(c:o:=by rw [uM,cell_of_row j L k _ u _ d_];simpa using ag):o:=c
def adS{o:Prop}(c:o:=by exact K.lE [_,_] [0] rfl ⟨rfl,rfl,trivial⟩ rfl ⟨g',(by rw [ab.Jj (ab.VF E)];rfl),(by rw [ab.Jj (ab.VF E)])⟩):o:=c
def L1{o:Prop}(c:o:=by exact aO ⟨by simp [ed, *],rfl⟩):o:=c
def adT{o:Prop}(c:o:=by exact aO ⟨(by have au:f=t:=abo;simp_all [ed]),rfl⟩):o:=c
def Sl{o:Prop}(c:o:=by exact Zu (a6 ok l j V W _ _ _ _) (dj _ (c ok _ j (V.put m ao) W))):o:=c
def Sm{o:Prop}(c:o:=by
 subst bw
 rcases Nd c with c|c|c|c|c|c|c|c<;>subst c<;>rfl):o:=c
def Sn{o:Prop}(c:o:=by
 refine aF ?_
 intros
 exact aO ⟨by simp [ed,g.ka, *],rfl⟩):o:=c
def adU{o:Prop}(c:o:=by
 refine aF ?_
 intros
 exact aO ⟨(by rw [dd.ahK bO bO E bf E E];rfl),rfl⟩):o:=c
def adV{o:Prop}(c:o:=by
 refine M.aM Tryz.func199 rfl Tryz.ntmps199 rfl fun an=>?_
 refine I 0 ?_
 refine w.n (U.min rfl rfl) rfl ?_
 refine w.n (U.max rfl rfl) rfl ?_
 exact cH):o:=c
def RI{o:Prop}(c:o:=by
 refine aF ?_
 intros
 exact aO ⟨by simp [ed,g.qk, *],rfl⟩):o:=c
def abO{o:Prop}(c:o:=by
 cases a6:p with
 | true=>rw [a6] at av;exact G a6 ok l j (Df V av) W
 | false=>rw [a6] at av;exact J a6 ok l j (Df V av) W):o:=c
def abP{o:Prop}(c:o:=by
 rcases c with ⟨_,c⟩|⟨k,_,⟨_,c⟩|⟨_,c,_⟩⟩
 · exact ⟨c.a_,c.aH⟩
 · exact ⟨c.a_,c.aH⟩
 · exact absurd c aC):o:=c
def abQ{o:Prop}(c:o:=by
 refine aF ?_
 exact aO ⟨(by rw [aQ.MN ji (by first|exact .inl bO|exact .inr bO)];rfl),rfl⟩):o:=c
def abR{o:Prop}(c:o:=by
 refine aF ?_
 intros
 exact aO ⟨(by first|(rw [ee bO];rfl)|(rw [be bO];rfl)),rfl⟩):o:=c
def abS{o:Prop}(c:o:=by exact aO ⟨dz (Value.int .i64) (by first|exact (g.Uf bO).symm|exact (g.Uh bO).symm),rfl⟩):o:=c
def abT{o:Prop}(c:o:=by exact aO ⟨(by rcases mR 8 f.length with au|au;(· rw [dd.ahO au];rfl);(· rw [dd.T0 E];rfl)),rfl⟩):o:=c
def abU{o:Prop}(c:o:=by
 refine aF ?_
 intros
 exact aO ⟨by have au:ab.cc s 1099511627776=ab.h1 s:=rfl;simp [ed,g.pe,au, *],rfl⟩):o:=c
def abV{o:Prop}(c:o:=by
 refine aF ?_
 exact aO ⟨N.bz,aW.bz,rfl,g.aws (by simp [g.p1,ag, *]) rfl,(by simp [ed,g.p1,ag, *]),rfl⟩):o:=c
def RJ{o:Prop}(c:o:=by
 simp only [first]
 (repeat' split)<;>constructor<;>intro c<;>omega):o:=c
def abW{o:Prop}(c:o:=by
 rcases mR k d with G|G
 · exact c k F G az
 · obtain rfl:k=d:=by omega
   rw [Q] at az;cases az;exact aw):o:=c
def RK{o:Prop}(c:o:=by
 simp at R;subst R
 exact (qE.1 G).1):o:=c
def abX{o:Prop}(c:o:=by
 have bB:=c 0
 unfold x6 at b6 ⊢
 simp only [List.countP_cons]
 cases e<;>cases F<;>simp_all<;>omega):o:=c
def abY{o:Prop}(c:o:=by exact aO ⟨(by first|(rw [ee E];rfl)|(rw [be E,g.uo E E];rfl)),rfl⟩):o:=c
def LR{o:Prop}(c:o:=by exact aO ⟨by simp [ed,g.fX, *],rfl⟩):o:=c
def abZ{o:Prop}(c:o:=by
 refine aF ?_
 intros
 exact aO ⟨(by simp only [ed];rw [p4 (bn.VE dy E)]),rfl⟩):o:=c
def ab0{o:Prop}(c:o:=by
 refine aD 1 ?_
 refine aL.cq rfl (aq.Ng (aG:=(b:Int)) 3 rfl rfl rfl rfl) ?_
 rintro _ _ rfl
 exact cH):o:=c
def ab1{o:Prop}(c:o:=by
 intros
 refine aF ?_
 exact aO ⟨rfl,_,_,ad,R,mg.done E hbb bO E,rfl⟩):o:=c
def ab2{o:Prop}(c:o:=by
 refine aF ?_
 intros
 exact aO ⟨(by simp only [ed,g.nw,g.hd];rw [dy.all E];rfl),rfl⟩):o:=c
def ab3{o:Prop}(c:o:=by
 have G:dq.map l.eval=ae:=V.dn ly
 simp [execOp,resolve,Deferred.ofValue,invoke,V.aT Q,G,mI]):o:=c
def RL{o:Prop}(c:o:=by exact aO ⟨(by rw [dd.ahM bO];rfl),rfl⟩):o:=c
def ab5{o:Prop}(c:o:=by
 have:=ci.dB aw
 rwa [show LK.dB C (bt++ec)=dW++ah from by rw [←dv,←dI];simp [LK.dB]] at this):o:=c
def ab6{o:Prop}(c:o:=by
 refine I 1 ?_
 exact da ⟨d+1,g.fv s bP⟩ ⟨by omega,(by rw [aw];exact (g.avR dJ).symm)⟩):o:=c
def ab7{o:Prop}(c:o:=by
 obtain ⟨cS,aI⟩:=A
 obtain ⟨k,_,_,bT,c7⟩:=un c bw
 rw [c7];exact p4 bT):o:=c
def ab8{o:Prop}(c:o:=by
 by_cases r:k=b
 · subst r;simp [Ns rT]
 · rw [getD_set_ne false (K_ r)];simp [r]):o:=c
def ab9{o:Prop}(c:o:=by
 refine w.n (U.makeFunc [b9] rfl) rfl ?_
 refine aF ?_
 exact aO ⟨b9,rfl,rfl⟩):o:=c
def ab_{o:Prop}(c:o:=by
 induction ad with
 | one aC=>exact aS _ _ aC (.inl rfl)
 | step _ aC b6=>exact aS _ _ aC (.inr b6)):o:=c
def ab'{o:Prop}(c:o:=by
 refine aF ?_
 intros
 exact aO ⟨(by rw [aw,ir E];rfl),rfl⟩):o:=c
def LS{o:Prop}(c:o:=by exact ⟨aA,fun d R=>J d (aZ d R)⟩):o:=c
def aca{o:Prop}(c:o:=by unfold fJ;rw [List.take_replicate,KX,DI (by have:=bf.gk;omega)];rfl):o:=c
def acc{o:Prop}(c:o:=by
 have J:l.eval (.const (.map none))=.map none:=rfl
 simp only [execOp,c.aT Q,J,bT]
 simp [aZ]):o:=c
def acd{o:Prop}(c:o:=by
 rw [kO,kP] at pd
 exact pd.1 (aC ▸ bx.2 ⟨F,ng,rfl⟩)):o:=c
def ace{o:Prop}(c:o:=by
 simp at jw lf
 obtain ⟨rfl,rfl⟩:=lf
 exact ⟨bw,Am,fun c=>by cases c⟩):o:=c
def acf{o:Prop}(c:o:=by
 refine aF ?_
 intros
 exact aO ⟨by simp [ed,g.oB,←g.alM, *],rfl⟩):o:=c
def acg{o:Prop}(c:o:=by
 have J:=Z2 m
 unfold gD
 (repeat' split)<;>constructor<;>dsimp only<;>omega):o:=c
def RM{o:Prop}(c:o:=by exact aO ⟨_,rfl,(fun au=>by cases au),rfl⟩):o:=c
def RN{o:Prop}(c:o:=by
 cases c
 intro j
 simp [Tryz.sizeOf3,Tryz.sizeOf4]):o:=c
def ach{o:Prop}(c:o:=by simp [Builtin.delete_,bB,jf cF,Result.andThen,bq,aS,bc,ft,A' G]):o:=c
def aci{o:Prop}(c:o:=by
 refine I 0 ?_
 refine K.fZ rfl (p4 E) ?_
 refine I 2 ?_
 exact cH):o:=c
def acj{o:Prop}(c:o:=by
 by_cases c:d=cD
 · simp [c]
 · have:¬cD=d:=fun r=>c r.symm
   simp [c,this]):o:=c
def ack{o:Prop}(c:o:=by
 refine aU ?_ ?_
 ·
   exact cH
 ·
   intros
   exfalso;omega):o:=c
def acl{o:Prop}(c:o:=by exact ⟨Ih,HZ,KK,I0,.of_steps (Steps.trans lS (.one step_inLoop)) IJ⟩):o:=c
def acm{o:Prop}(c:o:=by unfold k9 np;rw [hx,Q,jg,jg];simp [c]):o:=c
def acn{o:Prop}(c:o:=by exact K.lE [_,_] [] rfl ⟨rfl,rfl,trivial⟩ rfl ⟨_,(by simp only [*];rfl),rfl⟩):o:=c
def RO{o:Prop}(c:o:=by
 rintro _ _ ⟨_,⟨rfl,rfl⟩,rfl⟩
 exact cH):o:=c
def aco{o:Prop}(c:o:=by exact ⟨fun bh=>by obtain ⟨F,az,aC⟩:=bx.1 bh;exact Q F az aC,aw⟩):o:=c
def RP{o:Prop}(c:o:=by exact aO ⟨by simp [ed,g.iU, *],rfl⟩):o:=c
def acp{o:Prop}(c:o:=by
 refine w.dw 5 rfl ?_
 exact K.uz rfl rfl ⟨by simp [ed,g.hi, *],rfl⟩):o:=c
def acq{o:Prop}(c:o:=by
 refine w.dw 5 rfl ?_
 exact K.uz rfl rfl ⟨(by simp [ed,ab.gu, *]),rfl⟩):o:=c
def acr{o:Prop}(c:o:=by
 intro t b aC _
 have:t=[]:=by simpa using aC.symm
 subst this;rfl):o:=c
def act{o:Prop}(c:o:=by exact eI.eo k r av bt (fun ac=>(lm.1 aw).2.2 k ac k ag rfl) G b6):o:=c
def acu{o:Prop}(c:o:=by unfold oy at c ⊢;rw [hx,Q,jg,←c];simp [ao]):o:=c
def RQ{o:Prop}(c:o:=by
 split
 · rfl
 · exact b6 (b+1)):o:=c
def acv{o:Prop}(c:o:=by simp [execOp,resolve,Deferred.ofValue,invoke,V.aT Q,Wu,callFunc,oH]):o:=c
def acw{o:Prop}(c:o:=by
 refine aF ?_
 intros
 exact aO ⟨by simp [ed,g.oB, *],rfl⟩):o:=c
def acx{o:Prop}(c:o:=by
 refine aF ?_
 intros
 exact aO ⟨by simp [ed,g.ut, *],rfl⟩):o:=c
def acy{o:Prop}(c:o:=by exact aO ⟨by rw [←g.arO (s:=s) (n:=n) rfl];simp [ed, *],rfl⟩):o:=c
def acz{o:Prop}(c:o:=by
 rcases fb.1 az with rfl|bT
 · simp
 · simp [bw.mem_iff.2 bT]):o:=c
def acA{o:Prop}(c:o:=by exact ⟨_,⟨rfl,rfl⟩,a'.trans (a'.bz [0,1,2,3,4] rfl) a'.qj⟩):o:=c
def RR{o:Prop}(c:o:=by
 refine P aw_ ?_
 exact cH):o:=c
def acB{o:Prop}(c:o:=by unfold x0;rw [hx,Q,jg];simp [kr,c]):o:=c
def acC{o:Prop}(c:o:=by rwa [show ((f.length:Int)).toNat=f.length from by omega,←h9] at c):o:=c
def acD{o:Prop}(c:o:=by
 simp only [IntKind.wrap,IntKind.bits,IntKind.signed]
 simp;omega):o:=c
def acE{o:Prop}(c:o:=by
 refine aF ?_
 exact aO ⟨(by simp [ed,ab.r6, *]),rfl⟩):o:=c
def RS{o:Prop}(c:o:=by
 refine P aoX ?_
 exact cH):o:=c
def acF{o:Prop}(c:o:=by
 refine aF ?_
 exact aO ⟨by simp [ed,g.hi, *],rfl⟩):o:=c
def acG{o:Prop}(c:o:=by
 obtain ⟨rfl,rfl⟩:=ld
 exact dj _ _ (c _ (V.put _ ao))):o:=c
def acH{o:Prop}(c:o:=by
 refine aF ?_
 exact aO ⟨by simp [ed,g.nd, *],rfl⟩):o:=c
def acI{o:Prop}(c:o:=by
 refine aF ?_
 exact aO ⟨by simp [ed,g.fI, *],rfl⟩):o:=c
def acJ{o:Prop}(c:o:=by unfold cK;rw [dQ,bP,cP,cQ,dZ,eE,na,hL,gU,ba,R];rfl):o:=c
def acK{o:Prop}(c:o:=by
 refine aF ?_
 exact aO ⟨by simp [ed,g.mo, *],rfl⟩):o:=c
def acL{o:Prop}(c:o:=by
 refine I 0 ?_
 refine w.n (U.jA af1 rfl) rfl ?_
 exact cH):o:=c
def acM{o:Prop}(c:o:=by unfold c5;rw [hx,c,qG];simp):o:=c
def RU{o:Prop}(c:o:=by simp [execOp,V.aT Q,V.aT az,G]):o:=c
def acN{o:Prop}(c:o:=by exact aO ⟨(by rw [dd.ahN bO];rfl),rfl⟩):o:=c
def acO{o:Prop}(c:o:=by rw [gH,c];congr 1;unfold Bg xb;(repeat' split)<;>omega):o:=c
def RV{o:Prop}(c:o:=by rw [p4 this];decide):o:=c
def acP{o:Prop}(c:o:=by
 have:=rY.o3 Cz
 rwa [xA] at this):o:=c
def acQ{o:Prop}(c:o:=by exact aO ⟨(by rw [h7.MR E];rfl),rfl⟩):o:=c
def acR{o:Prop}(c:o:=by
 cases f with
 | nil=>exact c.2
 | cons l p=>cases c.1):o:=c
def acT{o:Prop}(c:o:=by
 rw [gR]
 exact GF _ _):o:=c
def acU{o:Prop}(c:o:=by
 have au:=at3 h ah q bu S ga
 rw [c] at au;exact au):o:=c
def acV{o:Prop}(c:o:=by simp [execOp,V.aT Q,Instr.loadAt,Instr.sureAddr,this]):o:=c
def acW{o:Prop}(c:o:=by
 have ad:=hl.put key aG
 rw [ft] at ad;exact ad):o:=c
def acX{o:Prop}(c:o:=by exact ⟨r,jE,bQ,a6,.of_steps (.one step_loop) lS⟩):o:=c
def acY{o:Prop}(c:o:=by exact aO ⟨by rw [g.apw];simp [ed, *],rfl⟩):o:=c
def RW{o:Prop}(c:o:=by unfold Oper.wp;rw [c];exact R):o:=c
def acZ{o:Prop}(c:o:=by
 have au:=aab n H e dI i
 rw [ag] at au;exact au):o:=c
def ac0{o:Prop}(c:o:=by
 refine aF ?_
 intros
 exact aO ⟨_,_,rfl,rfl⟩):o:=c
def ac1{o:Prop}(c:o:=by
 refine aF ?_
 intro b9
 exact aO ⟨b9,rfl,rfl⟩):o:=c
def ac3{o:Prop}(c:o:=by
 have au:=PS br f i S
 rw [c] at au;exact au):o:=c
def DY{o:Prop}(c:o:=by
 refine aj.Z 8 rfl ?_
 refine aj.qT ?_
 refine K.fC 5 rfl ?_
 exact abN):o:=c
def ac4{o:Prop}(c:o:=by
 refine bl.cE ?_
 refine bl.seq ?_
 refine bl.region ?_
 refine bX.n (U.move rfl) rfl ?_
 refine bX.cq (aq.store 3 (ae:=[v]) [v] rfl rfl rfl (by exact Tryz.sizeOf3) rfl rfl rfl rfl rfl) ?_
 rintro _ _ rfl
 refine bX.nil ?_
 exact RX):o:=c
def BF{o:Prop}(c:o:=by
 refine K.fC 4 rfl ?_
 exact abN):o:=c
def ac5{o:Prop}(c:o:=by
 refine aU ?_ ?_
 ·
   refine aF ?_
   intros
   exact zr
 ·
   refine aF ?_
   intros
   exact zr):o:=c
def ac6{o:Prop}(c:o:=by
 refine aU ?_ ?_
 ·
   refine aF ?_
   intros
   exact zq
 ·
   refine aF ?_
   intros
   exact zq):o:=c
def ac7{o:Prop}(c:o:=by
 refine aU ?_ ?_
 ·
   refine I 0 ?_
   intros
   exact LW
 ·
   refine I 3 ?_
   intros
   exact LW):o:=c
def ac8{o:Prop}(c:o:=by
 refine aU ?_ ?_
 ·
   exact Sa
 ·
   refine aU ?_ ?_
   ·
     exact Sa
   ·
     exact Sa):o:=c
def ac9{o:Prop}(c:o:=by
 refine aF ?_
 intros
 exact aO ⟨by simp [ed,g.ew, *],rfl⟩):o:=c
def ac_{o:Prop}(c:o:=by
 refine aU (fun eC=>?_) (fun eC=>?_)
 ·
   exact adk
 ·
   exact adk):o:=c
def ac'{o:Prop}(c:o:=by
 refine P (Qp h.bM h.cW h.b0 h.key h.ej bf.sU) ?_
 exact LU):o:=c
def RY{o:Prop}(c:o:=by
 refine aF ?_
 intros
 exact L1):o:=c
def RZ{o:Prop}(c:o:=by
 refine aF ?_
 intros
 exact adu):o:=c
def R0{o:Prop}(c:o:=by
 refine aF ?_
 intros
 exact adt):o:=c
def ada{o:Prop}(c:o:=by
 have fp:=dp G
 refine aF ?_
 exact LX):o:=c
namespace Go.LK
def a.{aG}{bi:Sort aG}{l:bi}:l=l:=rfl
open Go Go.RowKit
abbrev bW:=List (Nat×Value)
def gx:bW→Nat→Option Value
  | [],_=>none
  | (d,m) :: D,u=>bif Nat.beq d u then some m else gx D u
def FM(d u:Nat)(m:Value)(D:bW):gx ((d,m) :: D) u=if d=u then some m else gx D u:=by
  simp only [gx]
  by_cases c:d=u
  · subst c;simp
  · have:Nat.beq d u=false:=by
      cases av:Nat.beq d u
      · rfl
      · exact absurd (Br av) c
    simp [this,c]
structure hH (s:Nat) (l:Act) (D:bW):Prop where
  size:l.tmps.size=s
  defers:l.defers=[]
  cC:∀ u m,gx D u=some m→l.tmps.getD u undef=m
def aT(D:bW):Operand→Option Value
  | .tmp u=>gx D u
  | .const m=>some m
  | .global L=>some (.n L)
  | .func z=>some (.func (.func z) #[] #[])
def hH.aT{s:Nat}{l:Act}{D:bW}{e:Operand}{m:Value}(c:hH s l D)(Q:aT D e=some m):l.eval e=m:=by
  cases e with
  | tmp u=>exact c.cC u m Q
  | const aG=>simpa [LK.aT,Act.eval] using Q
  | global L=>simpa [LK.aT,Act.eval] using Q
  | func z=>simpa [LK.aT,Act.eval] using Q
def hH.put{s y:Nat}{l:Act}{D:bW}(c:hH s l D)(m:Value)(ao:Nat.blt y s=true):hH s (l.put (some y) m) ((y,m) :: D):=by
  have lT:y < l.tmps.size:=by rw [c.size];exact kc ao
  refine ⟨by simpa [Act.put] using c.size,c.defers,fun u aG bp=>?_⟩
  rw [FM] at bp
  simp only [Act.put]
  by_cases r:y=u
  · subst r
    rw [ee rfl] at bp
    cases bp
    simp [l6,lT]
  · rw [be r] at bp
    have:=c.cC u aG bp
    rw [l6] at this ⊢
    rw [Dx r]
    exact this
def drop(y:Nat):bW→bW
  | []=>[]
  | (d,m) :: D=>bif Nat.beq d y then drop y D else (d,m) :: drop y D
def lu:bW→bW→Prop
  | [],_=>True
  | (d,m) :: du,D=>gx D d=some m∧lu du D
def lu.gx{du D:bW}(c:lu du D){u:Nat}{m:Value}(bA:gx du u=some m):gx D u=some m:=by
  induction du with
  | nil=>simp [LK.gx] at bA
  | cons n du b6 =>
    obtain ⟨d,aG⟩:=n
    rw [FM] at bA
    by_cases r:d=u
    · subst r
      rw [ee rfl] at bA
      cases bA
      exact c.1
    · rw [be r] at bA
      exact b6 c.2 bA
def hH.sub{s:Nat}{l:Act}{D du:bW}(c:hH s l D)(W:lu du D):hH s l du :=
  ⟨c.size,c.defers,fun u m bA=>c.cC u m (W.gx bA)⟩
structure aB where
  dT:List Nat
  holds:World→Prop
  lt:∀ j,holds j→∀ d∈dT,d < j.heap.size
  oM:∀ j bQ,(∀ d∈dT,bQ.heap[d]?=j.heap[d]?)→holds j→holds bQ
def ei(C:List aB):List Nat:=C.flatMap aB.dT
@[simp] def ayh:ei []=[]:=rfl
@[simp] def ya(ar:aB)(C:List aB):ei (ar :: C)=ar.dT++ei C:=rfl
@[simp] def Nh(C B:List aB):ei (C++B)=ei C++ei B:=by simp [ei]
def cE(L:Nat)(v:Obj):aB where
  dT:=[L]
  holds j:=j.heap[L]?=some v
  lt j c d R:=by
    simp only [nm] at R
    subst R
    exact (qE.1 c).1
  oM j bQ c d_:=by
    rw [c L oU]
    exact d_
abbrev ai(L:Nat)(ay:List Value)(u:TypeId):aB:=cE L (.cells ay.toArray u (0,0))
def fy(m:Value)(r:TypeId)(size s:Nat)(dq:List Value):aB where
  dT:=m.ownBlock.toList
  holds j:=j.ownsRow 0 r size m s dq
  lt j c d R:=by
    have:m.ownBlock=some d:=by simpa using R
    exact (c.lt d this).2
  oM j bQ c d_:=by
    refine ⟨d_.1,?_⟩
    rcases d_.2 with aw|⟨L,cap,fF,rfl,av,bq,bv⟩
    · exact .inl aw
    · refine .inr ⟨L,cap,fF,rfl,av,?_,bv⟩
      rw [c L (by simp [Value.ownBlock])]
      exact bq
structure Frame (an:World) (bL:List Nat) (j:World):Prop where
  os:j.os=an.os
  tape:j.tape=an.tape
  output:j.output=an.output
  size:an.heap.size≤j.heap.size
  kr:∀ d,d < an.heap.size→d∉bL→j.heap[d]?=an.heap[d]?
def Frame.refl(j:World)(bL:List Nat):Frame j bL j:=⟨rfl,rfl,rfl,oQ _,fun _ _ _=>rfl⟩
def Frame.trans{an ih k5:World}{bL D_:List Nat}(c:Frame an bL ih)(gH:Frame ih D_ k5)(bh:∀ d∈D_,d∈bL∨an.heap.size≤d):Frame an bL k5 :=
  ⟨gH.os.trans c.os,gH.tape.trans c.tape,gH.output.trans c.output,iZ c.size gH.size,fun d R aw =>
    (gH.kr d (Nat.lt_of_lt_of_le R c.size) (fun hB=>by rcases bh d hB with G|G;exact aw G;omega)).trans (c.kr d R aw)⟩
def Frame.below{an j:World}(c:Frame an [] j):Below an.heap.size an j:=⟨c.os,c.tape,c.output,c.size,fun d R=>c.kr d R oU⟩
def uS(ar b2:aB):Prop:=∀ d∈ar.dT,d∉b2.dT
def uS.symm{ar b2:aB}(c:uS ar b2):uS b2 ar:=fun d R hB=>c d hB R
structure cl (an:World) (bL:List Nat) (C:List aB) (j:World):Prop where
  aE:Frame an bL j
  cC:∀ ar∈C,ar.holds j
  gX:C.Pairwise uS
  mu:∀ d∈ei C,an.heap.size≤d∨d∈bL
def jO{C:List aB}{d:Nat}:d∈ei C↔∃ ar∈C,d∈ar.dT:=List.mem_flatMap
def cl.lt{an j:World}{bL:List Nat}{C:List aB}(c:cl an bL C j):∀ d∈ei C,d < j.heap.size:=by
  intro d R
  obtain ⟨ar,bI,R⟩:=jO.1 R
  exact ar.lt j (c.cC ar bI) d R
def cl.drew{an j:World}{bL:List Nat}{C:List aB}(c:cl an bL C j)(s:Nat):cl an bL C { j with drawn:=s } :=
  ⟨⟨c.aE.os,c.aE.tape,c.aE.output,c.aE.size,c.aE.kr⟩,fun ar bI=>ar.oM j _ (fun _ _=>rfl) (c.cC ar bI),c.gX,c.mu⟩
def cl.step{an j bQ:World}{bL:List Nat}{C B ah:List aB}(c:cl an bL (C++ah) j)(bc:Frame j (ei C) bQ)(dv:∀ ar∈B,ar.holds bQ)(gv:B.Pairwise uS)
    (bh:∀ d∈ei B,d∈ei C∨j.heap.size≤d):cl an bL (B++ah) bQ:=by
  have Wd:=p7.1 c.gX
  have dI:∀ d∈ei ah,d < j.heap.size:=fun d R=>c.lt d Rs
  have VP:∀ d∈ei C,d∉ei ah:=fun d R hB=>by
    obtain ⟨ar,bI,Ax⟩:=jO.1 R
    obtain ⟨b2,dP,Om⟩:=jO.1 hB
    exact Wd.2.2 ar bI b2 dP d Ax Om
  refine ⟨c.aE.trans bc fun d R=>?_,fun ar bI=>?_,?_,fun d R=>?_⟩
  · exact (c.mu d Rs).symm
  · rcases iE.1 bI with bI|bI
    · exact dv ar bI
    · refine ar.oM j bQ (fun d R=>?_) (c.cC ar xC)
      have V6:d∈ei ah:=jO.2 ⟨ar,bI,R⟩
      exact bc.kr d (dI d V6) (fun Oo=>VP d Oo V6)
  · refine p7.2 ⟨gv,Wd.2.1,fun ar bI b2 dP d Ax Om=>?_⟩
    have V5:d∈ei ah:=jO.2 ⟨b2,dP,Om⟩
    rcases bh d (jO.2 ⟨ar,bI,Ax⟩) with G|G
    · exact VP d G V5
    · have:=dI d V5;omega
  · rw [Nh,iE] at R
    rcases R with R|R
    · rcases bh d R with G|G
      · exact c.mu d (by simp [G])
      · exact .inl (iZ c.aE.size G)
    · exact c.mu d Rs
def aiS{C B:List aB}(ad:C.Perm B)(d:Nat):d∈ei C↔d∈ei B:=by
  simp only [jO,ad.mem_iff]
def cl.pk{an j:World}{bL:List Nat}{C B:List aB}(c:cl an bL C j)(ad:C.Perm B):cl an bL B j :=
  ⟨c.aE,fun ar bI=>c.cC ar (ad.mem_iff.2 bI),(ad.pairwise_iff (fun c=>uS.symm c)).1 c.gX,fun d R=>c.mu d ((aiS ad d).2 R)⟩
def XU{bi:Type}:∀ (C:List bi) (b:Nat) (ar:bi),C[b]?=some ar→C.Perm (ar :: C.eraseIdx b)
  | [],b,ar,c=>by simp at c
  | b2 :: C,0,ar,c=>by simp at c;subst c;simp
  | b2 :: C,b+1,ar,c=>by
    have:=XU C b ar G4
    simp only [aaw]
    exact (this.cons b2).trans (List.Perm.swap ar b2 _)
def XV{bi:Type}(b2:bi):∀ (C:List bi) (b:Nat),b < C.length→(C.set b b2).Perm (b2 :: C.eraseIdx b)
  | [],b,c=>by simp at c
  | cO :: C,0,_=>by simp
  | cO :: C,b+1,c=>by
    have:=XV b2 C b G4
    simp only [List.set_cons_succ,aaw]
    exact (this.cons cO).trans (List.Perm.swap b2 cO _)
def cl.set{an j bQ:World}{bL:List Nat}{C:List aB}(c:cl an bL C j){b:Nat}{ar kS:aB}(ac:C[b]?=some ar)(bc:Frame j ar.dT bQ)(bI:kS.holds bQ)
    (bh:∀ d∈kS.dT,d∈ar.dT∨j.heap.size≤d):cl an bL (C.set b kS) bQ:=by
  obtain ⟨ca,_⟩:=dD.1 ac
  have ad:C.Perm ([ar]++C.eraseIdx b):=XU C b ar ac
  have G:=(c.pk ad).step (B:=[kS]) (bQ:=bQ) (by simpa [ei] using bc) zh oU (by simpa [ei] using bh)
  exact G.pk (XV kS C b ca).symm
def cl.add{an j bQ:World}{bL:List Nat}{C:List aB}(c:cl an bL C j){kS:aB}(bc:Frame j [] bQ)(bI:kS.holds bQ)(bh:∀ d∈kS.dT,j.heap.size≤d):cl an bL (kS :: C) bQ :=
  cl.step (C:=[]) (ah:=C) (B:=[kS]) c bc zh oU (fun d R=>.inr (bh d (by simpa [ei] using R)))
def cl.J4{an j bQ:World}{bL:List Nat}{C:List aB}(c:cl an bL C j)(bc:Frame j [] bQ):cl an bL C bQ :=
  cl.step (C:=[]) (ah:=C) (B:=[]) c bc oU oU oU
def dB(C:List aB)(bt:List Nat):List aB:=bt.filterMap (C[·]?)
def cl.Xr{an j:World}{bL:List Nat}{C:List aB}(c:cl an bL C j){b k:Nat}{ar b2:aB}(ea:b≠k)(ac:C[b]?=some ar)(ag:C[k]?=some b2):uS ar b2:=by
  obtain ⟨CF,rfl⟩:=dD.1 ac
  obtain ⟨ue,rfl⟩:=dD.1 ag
  have ad:=GH.1 c.gX
  rcases Nat.lt_or_gt_of_ne ea with ca|Fi
  · exact ad b k CF ue ca
  · exact (ad k b ue CF Fi).symm
def cl.dB{an j:World}{bL:List Nat}{C:List aB}(c:cl an bL C j){bt:List Nat}(aw:bt.Nodup):cl an bL (LK.dB C bt) j:=by
  have ng:∀ ar∈LK.dB C bt,ar∈C:=fun ar bI=>by
    obtain ⟨b,_,ac⟩:=vT.1 bI
    exact eF ac
  refine ⟨c.aE,fun ar bI=>c.cC ar (ng ar bI),?_,fun d R=>?_⟩
  · refine List.pairwise_filterMap.2 (aw.imp ?_)
    intro b k ea ar bI b2 dP
    exact c.Xr ea bI dP
  · obtain ⟨ar,bI,Ax⟩:=jO.1 R
    exact c.mu d (jO.2 ⟨ar,ng ar bI,Ax⟩)
end Go.LK
namespace Go.LK
open Go Go.RowKit
structure cM where
  o:Program
  fn:Func
  s:Nat
  an:World
  bL:List Nat
  dO:List aB
  ah:Ending→World→Prop
def cM.bC(i:cM):Prop:=∀ ar∈i.dO,ar.holds i.an∧∀ d∈ar.dT,d∉i.bL
def cM.b0{i:cM}(c:i.bC){j:World}{C:List aB}(H:cl i.an i.bL C j){b:Nat}{ar:aB}(ac:i.dO[b]?=some ar):ar.holds j:=by
  obtain ⟨G,J⟩:=c ar (eF ac)
  exact ar.oM i.an j (fun d R=>H.aE.kr d (ar.lt _ G d R) (J d R)) G
inductive eH where
  | code (i:Code)
  | cE (id:Nat)
  | po
  | gW (cZ:Act→World→Prop)
def tK(o:Program)(fS:Exit→Act→World→Prop):List eH→Exit→Act→World→Prop
  | []=>fS
  | .code i :: d=>Exit.then (i.wp o (tK o fS d)) (tK o fS d)
  | .cE id :: d=>Exit.inBlock id (tK o fS d)
  | .po :: d=>Exit.noGoto (tK o fS d)
  | .gW cZ :: d=>Exit.then cZ (tK o fS d)
abbrev cM.cz(i:cM)(d:List eH):Exit→Act→World→Prop:=tK i.o (bodyPost i.o i.fn i.ah) d
def K(i:cM)(d:List eH)(D:bW)(C:List aB):Prop:=i.bC→∀ l j,hH i.s l D→cl i.an i.bL C j→i.cz d .normal l j
def w(i:cM)(ak:Array Oper)(bv:List Oper)(d:List eH)(D:bW)(C:List aB):Prop :=
  i.bC→∀ l j,hH i.s l D→cl i.an i.bL C j→wpList i.o ak (i.cz d) bv l j
section
variable {i:cM} {d:List eH} {D:bW} {C:List aB}
def K.seq{e F:Code}(c:K i (.code e :: .code F :: d) D C):K i (.code (.seq e F) :: d) D C:=fun ok l j V W=>wp_seq (c ok l j V W)
def K.block{id:Nat}{e:Code}(c:K i (.code e :: .cE id :: d) D C):K i (.code (.block id e) :: d) D C:=fun ok l j V W=>wp_block (c ok l j V W)
def K.cE{id:Nat}(c:K i d D C):K i (.cE id :: d) D C:=fun ok l j V W=>c ok l j V W
def K.scope{e:Code}(c:K i (.code e :: .po :: d) D C):K i (.code (.scope e) :: d) D C:=fun ok l j V W=>wp_scope_straight (c ok l j V W)
def K.po(c:K i d D C):K i (.po :: d) D C:=fun ok l j V W=>c ok l j V W
def K.skip(c:K i d D C):K i (.code .skip :: d) D C:=fun ok l j V W=>wp_skip (c ok l j V W)
def K.label{f:Nat}(c:K i d D C):K i (.code (.label f) :: d) D C:=fun ok l j V W=>wp_label (c ok l j V W)
def nI(id:Nat):List eH→Option (List eH)
  | []=>none
  | .cE b :: d=>bif Nat.beq b id then some d else nI id d
  | .code _ :: d=>nI id d
  | .po :: d=>nI id d
  | .gW _ :: d=>nI id d
def Ek{o:Program}{fS:Exit→Act→World→Prop}{id:Nat}{l:Act}{j:World}:∀ {d cD:List eH},nI id d=some cD→tK o fS cD .normal l j→tK o fS d (.exit id) l j
  | [],_,c,_=>by simp [nI] at c
  | .cE b :: d,cD,c,a6=>by
    simp only [nI] at c
    simp only [tK,Exit.inBlock]
    cases av:Nat.beq b id
    · rw [av] at c
      have ea:b≠id:=fun r=>by subst r;simp at av
      rw [be (K_ ea)]
      exact Ek c a6
    · rw [av] at c
      have aC:=Br av
      subst aC
      cases c
      rw [ee rfl]
      exact a6
  | .code _ :: d,cD,c,a6=>Ek (d:=d) c a6
  | .po :: d,cD,c,a6=>Ek (d:=d) c a6
  | .gW _ :: d,cD,c,a6=>Ek (d:=d) c a6
def Em{o:Program}{fS:Exit→Act→World→Prop}{l:Act}{j:World}:∀ {d:List eH},fS .ret l j→tK o fS d .ret l j
  | [],c=>c
  | .cE _ :: d,c=>Em (d:=d) c
  | .code _ :: d,c=>Em (d:=d) c
  | .po :: d,c=>Em (d:=d) c
  | .gW _ :: d,c=>Em (d:=d) c
def K.exit{id:Nat}(cD:List eH)(ad:nI id d=some cD)(c:K i cD D C):K i (.code (.exit id) :: d) D C:=fun ok l j V W=>wp_exit (Ek ad (c ok l j V W))
def K.cond{e:Operand}{p:Bool}{u z:Code}(Q:aT D e=some (.bool p))(bA:p=true→K i (.code u :: d) D C)(bc:p=false→K i (.code z :: d) D C) :
    K i (.code (.cond e u z) :: d) D C:=fun ok l j V W =>
  wp_cond_split (V.aT Q) (fun r=>bA r ok l j V W) (fun r=>bc r ok l j V W)
def K.lN{e:Operand}{p:Bool}{u z:Code}(Q:aT D e=some (.bool p))(av:p=true)(bA:K i (.code u :: d) D C) :
    K i (.code (.cond e u z) :: d) D C:=fun ok l j V W=>wp_cond_true Lq (bA ok l j V W)
def K.fZ{e:Operand}{p:Bool}{u z:Code}(Q:aT D e=some (.bool p))(av:p=false)(bc:K i (.code z :: d) D C) :
    K i (.code (.cond e u z) :: d) D C:=fun ok l j V W=>wp_cond_false Lq (bc ok l j V W)
def K.region{id:Nat}{f:List Oper}(c:w i f.toArray f d D C):K i (.code (.region id f.toArray false) :: d) D C:=fun ok l j V W=>wp_region_lit (c ok l j V W)
def w.nil{ak:Array Oper}(c:K i d D C):w i ak [] d D C:=fun ok l j V W=>c ok l j V W
def AQ{bo:Type}(i:cM)(dH:bo→Prop)(gY:bo→bW)(cJ:bo→List aB)(iO:bo→Nat)(t:Nat)(l:Act)(j:World):Prop :=
  ∃ e,dH e∧iO e < t∧hH i.s l (gY e)∧cl i.an i.bL (cJ e) j
def K.loop{bo:Type}(dH:bo→Prop)(gY:bo→bW)(cJ:bo→List aB)(iO:bo→Nat){e:Code}(bK:bo)(bB:dH bK)(ie:lu (gY bK) D)(bt:List Nat)(aw:bt.Nodup)(dv:LK.dB C bt=cJ bK)
    (round:∀ F,dH F→K i (.code e :: .gW (AQ i dH gY cJ iO (iO F)) :: d) (gY F) (cJ F)):K i (.code (.loop e) :: d) D C:=fun ok l j V W=>by
  have ci:cl i.an i.bL (cJ bK) j:=dv ▸ W.dB aw
  have d_:=V.sub ie
  intro p oK ay
  have key:∀ t F l j,iO F=t→dH F→hH i.s l (gY F)→cl i.an i.bL (cJ F) j →
      ∃ r jE bQ,i.cz d r jE bQ∧Arrives i.o (lone (p.at l (.code e :: .inLoop e :: oK)) ay j) p oK ay r jE bQ:=by
    intro t
    induction t using Nat.strongRecOn with
    | _ t b6 =>
      intro F l j bh kI V W
      obtain ⟨r,n4,oj,a6,lS⟩:=round F kI ok l j V W p (.inLoop e :: oK) ay
      cases r with
      | normal =>
        obtain ⟨hj,ani,ca,E3,eY⟩:=a6
        obtain ⟨Ih,HZ,KK,I0,IJ⟩:=b6 (iO hj) (bh ▸ ca) hj n4 oj rfl ani E3 eY
        exact acl
      | exit id=>exact ⟨_,n4,oj,a6,.pass (x:=.inLoop e) rfl (fun _ _=>.inl oU) lS⟩
      | goto f=>exact ⟨_,n4,oj,a6,.pass (x:=.inLoop e) rfl (fun _ _=>.inl oU) lS⟩
      | ret=>exact ⟨_,n4,oj,a6,.pass (x:=.inLoop e) rfl (fun _ _=>.inl oU) lS⟩
      | panic wE=>exact ⟨_,n4,oj,a6,.pass (x:=.inLoop e) rfl (fun _ _=>.inl oU) lS⟩
      | outgrown=>exact ⟨_,n4,oj,a6,.pass (x:=.inLoop e) rfl (fun _ _=>.inl oU) lS⟩
  obtain ⟨r,jE,bQ,a6,lS⟩:=key _ bK l j rfl bB d_ ci
  exact acX
def K.gW{bo:Type}{dH:bo→Prop}{gY:bo→bW}{cJ:bo→List aB}{iO:bo→Nat}{t:Nat}(F:bo)(kI:dH F)(bh:iO F < t)(ie:lu (gY F) D)(bt:List Nat)(aw:bt.Nodup)(dv:LK.dB C bt=cJ F) :
    K i (.gW (AQ i dH gY cJ iO t) :: d) D C:=fun _ _ _ V W=>⟨F,kI,bh,V.sub ie,dv ▸ W.dB aw⟩
def Fin(i:cM)(D:bW)(C:List aB):Prop:=i.bC→∀ l j,hH i.s l D→cl i.an i.bL C j→∃ m,(results i.fn l.tmps).run i.o j=.ok m j∧i.ah (.returned m) j
def K.ret(c:Fin i D C):K i (.code .ret :: d) D C:=fun ok l j V W =>
  wp_ret (Em (by obtain ⟨m,G,J⟩:=c ok l j V W;exact ⟨V.defers,m,G,J⟩))
def K.done(c:Fin i D C):K i [] D C:=fun ok l j V W=>by
  obtain ⟨m,G,J⟩:=c ok l j V W
  exact ⟨V.defers,m,G,J⟩
def M(o:Program)(z:FuncId)(args:Array Value)(dO C:List aB)(post:Value→List aB→Prop):Prop :=
  ∀ j,(∀ ar∈dO,ar.holds j∧∀ d∈ar.dT,d∉ei C)→cl j (ei C) C j →
    Calls o z args j fun r bQ=>∃ m B,r=.returned m∧post m B∧cl j (ei C) B bQ
abbrev pJ(j:World)(bL:List Nat)(post:Value→List aB→Prop):Ending→World→Prop:=fun r bQ=>∃ m B,r=.returned m∧post m B∧cl j bL B bQ
def wG:Nat→List Value→bW
  | _,[]=>[]
  | b,m :: ae=>(b,m) :: wG (b+1) ae
def Xb(ae:List Value):∀ (b u:Nat) (m:Value),gx (wG b ae) u=some m→b≤u∧ae[u-b]?=some m:=by
  induction ae with
  | nil=>intro b u m c;simp [wG,gx] at c
  | cons aG ae b6 =>
    intro b u m c
    simp only [wG,FM] at c
    by_cases r:b=u
    · subst r;simp at c;subst c;simp
    · rw [be r] at c
      obtain ⟨G,J⟩:=b6 (b+1) u m c
      refine ⟨by omega,?_⟩
      rw [show u-b=(u-(b+1))+1 from by omega]
      simpa using J
def M.enter{o:Program}{z:FuncId}{fn:Func}{body:Code}{args:List Value}{dO C:List aB}{post:Value→List aB→Prop}(s:Nat)(bc:o.funcs[z]?=some fn)(av:fn.body=some body)(aw:fn.ntmps=s)(h9:Nat.ble args.length s=true)
    (c:∀ j,K { o:=o,fn:=fn,s:=s,an:=j,bL:=ei C,dO:=dO,ah:=pJ j (ei C) post } [.code body] (wG 0 args) C):M o z args.toArray dO C post:=by
  intro j fM ci
  refine calls_of_wp bc av ?_
  have ug:=kc h9
  have:=c j fM { tmps:=args.toArray++Array.replicate (fn.ntmps-args.toArray.size) undef,defers:=[] } j ⟨by simp [aw];omega,rfl,?_⟩ ci
  · exact Code.wp_mono (fun r l j A=>by cases r<;>exact A) this
  · intro u m bA
    obtain ⟨_,J⟩:=Xb args 0 u m bA
    simp only [Nat.sub_zero] at J
    obtain ⟨ca,rfl⟩:=dD.1 J
    simp [l6,aaC,ca]
end
end Go.LK
namespace Go.LK
open Go Go.RowKit
def aV(i:cM)(D:bW)(C:List aB)(v:Op)(aX:TypeId)(m:Value):Prop :=
  i.bC→∀ l j,hH i.s l D→cl i.an i.bL C j→∀ y pos cT L,(execOp l.eval ⟨y,v,aX,pos,cT,L⟩).run i.o j=.ok (.value m) j
def U(i:cM)(D:bW)(v:Op)(aX:TypeId)(m:Value):Prop :=
  ∀ l j,hH i.s l D→∀ y pos cT L,(execOp l.eval ⟨y,v,aX,pos,cT,L⟩).run i.o j=.ok (.value m) j
def U.dg{i:cM}{D:bW}{C:List aB}{v:Op}{aX:TypeId}{m:Value}(c:U i D v aX m):aV i D C v aX m:=fun _ l j V _=>c l j V
def aq(i:cM)(D:bW)(C:List aB)(v:Op)(aX:TypeId)(ah:Value→List aB→Prop):Prop :=
  i.bC→∀ l j,hH i.s l D→cl i.an i.bL C j→∀ y pos cT L (bN:Act→World→Prop) (cz:Exit→Act→World→Prop),
    (∀ m B bQ,ah m B→cl i.an i.bL B bQ→bN (l.put y m) bQ)→Oper.wp i.o ⟨y,v,aX,pos,cT,L⟩ l j bN cz
section
variable {i:cM} {d:List eH} {D:bW} {C:List aB} {ak:Array Oper} {bv:List Oper} {v:Op} {aX:TypeId} {y:Nat} {pos:String} {cT:Array Edge} {m:Value}
def KI{o:Program}{v:Oper}{l:Act}{j:World}{m:Value}{bN:Act→World→Prop}{cz:Exit→Act→World→Prop}(c:(execOp l.eval v).run o j=.ok (.value m) j)(R:bN (l.put v.dst m) j):v.wp o l j bN cz:=by
  exact RW
def w.A(a6:aV i D C v aX m)(ao:Nat.blt y i.s=true)(c:w i ak bv d ((y,m) :: D) C):w i ak (⟨some y,v,aX,pos,cT,none⟩ :: bv) d D C:=fun ok l j V W =>
  wpList_plain rfl fun _ dj=>KI (a6 ok l j V W _ _ _ _) (dj _ _ (c ok _ j (V.put m ao) W))
def w.n(a6:U i D v aX m)(ao:Nat.blt y i.s=true)(c:w i ak bv d ((y,m) :: D) C):w i ak (⟨some y,v,aX,pos,cT,none⟩ :: bv) d D C:=w.A a6.dg ao c
def w.f{ah:Value→List aB→Prop}(S:aq i D C v aX ah)(ao:Nat.blt y i.s=true)(c:∀ m B,ah m B→w i ak bv d ((y,m) :: D) B):w i ak (⟨some y,v,aX,pos,cT,none⟩ :: bv) d D C:=fun ok l j V W =>
  wpList_plain rfl fun _ dj=>S ok l j V W _ _ _ _ _ _ fun m B bQ dI eY=>dj _ _ (c m B dI ok _ bQ (V.put m ao) eY)
def w.cq{ah:Value→List aB→Prop}(S:aq i D C v aX ah)(c:∀ m B,ah m B→w i ak bv d D B):w i ak (⟨none,v,aX,pos,cT,none⟩ :: bv) d D C:=fun ok l j V W =>
  wpList_plain rfl fun _ dj=>S ok l j V W _ _ _ _ _ _ fun m B bQ dI eY=>dj _ _ (c m B dI ok _ bQ V eY)
def xl{l:Act}{s:Nat}{v:Oper}{k u:Nat}{db:Bool}(V:hH s l D)(bq:v.guard=some (k,db))(ag:(ak[k]?).bind (·.dst)=some u)(bA:gx D u=some (.bool db))(aw:Nat.blt u s=true) :
    Region.wanted v (yielded ak l.tmps)=true:=by
  have G:=V.cC u _ bA
  have FB:u < l.tmps.size:=by rw [V.size];exact kc aw
  simp only [Region.wanted,bq,yielded,ag,GV]
  rw [l6,om FB] at G
  rw [om FB]
  simp only [QT] at G
  rw [G]
  simp
def o4:Value→Option Bool
  | .bool p=>some p
  | _=>none
def y8{l:Act}{s:Nat}{v:Oper}{k u:Nat}{db:Bool}{aG:Value}(V:hH s l D)(bq:v.guard=some (k,db))(ag:(ak[k]?).bind (·.dst)=some u)(bA:gx D u=some aG)(bp:o4 aG≠some db)(aw:Nat.blt u s=true) :
    Region.wanted v (yielded ak l.tmps)=false:=by
  have G:=V.cC u _ bA
  have FB:u < l.tmps.size:=by rw [V.size];exact kc aw
  simp only [Region.wanted,bq,yielded,ag,GV]
  rw [l6,om FB] at G
  rw [om FB]
  simp only [QT] at G
  rw [G]
  cases aG<;>simp_all [o4]
def lY{p db:Bool}(c:p≠db):o4 (.bool p)≠some db:=fun r=>c (by simpa [o4] using r)
section
variable {e F aI:Operand} {Y:TypeId}
def U.move(Q:aT D e=some m):U i D (.move e) aX m:=fun l j V _ _ _ _=>by simp [execOp,V.aT Q]
def U.assign(Q:aT D e=some m):U i D (.assign e) aX m:=fun l j V _ _ _ _=>by simp [execOp,V.aT Q]
def w.t{i:cM}{d:List eH}{D:bW}{C:List aB}{ak:Array Oper}{bv:List Oper}{e:Operand}{m:Value}{aX:TypeId}{y:Nat}{pos:String}{cT:Array Edge}(Q:aT D e=some m)(ao:Nat.blt y i.s=true)(c:w i ak bv d ((y,m) :: D) C):w i ak (⟨some y,.move e,aX,pos,cT,none⟩ :: bv) d D C:=w.n (U.move Q) ao c
def w.l{i:cM}{d:List eH}{D:bW}{C:List aB}{ak:Array Oper}{bv:List Oper}{e:Operand}{m:Value}{aX:TypeId}{y:Nat}{pos:String}{cT:Array Edge}(Q:aT D e=some m)(ao:Nat.blt y i.s=true)(c:w i ak bv d ((y,m) :: D) C):w i ak (⟨some y,.assign e,aX,pos,cT,none⟩ :: bv) d D C:=w.n (U.assign Q) ao c
def U.s7{p:Bool}(Q:aT D e=some (.bool p))(av:p=true)(az:aT D F=some m):U i D (.pick e F aI) aX m:=fun l j V _ _ _ _=>by simp [execOp,V.aT Q,V.aT az,av,asBool]
def U.w_{p:Bool}(Q:aT D e=some (.bool p))(av:p=false)(ce:aT D aI=some m):U i D (.pick e F aI) aX m:=fun l j V _ _ _ _=>by simp [execOp,V.aT Q,V.aT ce,av,asBool]
def U.nilCheck{mY:Addr}(Q:aT D e=some (.pointer (some mY))):U i D (.nilCheck e) aX (.pointer (some mY)):=fun l j V _ _ _ _=>by simp [execOp,V.aT Q]
def U.not{p:Bool}(Q:aT D e=some (.bool p)):U i D (.unOp .not Y e) aX (.bool !p):=fun l j V _ _ _ _=>by simp [execOp,V.aT Q,Op.unary]
def U.extract{ae:List Value}{b:Nat}(Q:aT D e=some (.tuple ae.toArray))(ac:ae[b]?=some m):U i D (.extract e b) aX m:=fun l j V _ _ _ _=>by simp [execOp,V.aT Q,Instr.extract,ac]
def hH.dn{s:Nat}{l:Act}(V:hH s l D):∀ {dq:List Operand} {ae:List Value},dq.map (LK.aT D)=ae.map some→dq.map l.eval=ae
  | [],[],_=>rfl
  | [],_ :: _,c=>by simp at c
  | _ :: _,[],c=>by simp at c
  | e :: dq,m :: ae,c=>by
    simp only [kO,oR] at c ⊢
    exact ⟨V.aT c.1,V.dn c.2⟩
def U.makeFunc{fn:Fn}{cap:List Operand}(ae:List Value)(aS:cap.map (aT D)=ae.map some):U i D (.makeFunc fn #[] cap.toArray) aX (.func fn #[] ae.toArray):=fun l j V _ _ _ _=>by
  simp [execOp,Instr.makeFunc,V.dn aS]
section
variable {fE:IntKind} {t s:Int}
def U.add(Q:aT D e=some (.int fE t))(az:aT D F=some (.int fE s)):U i D (.binOp .add Y e F Y) aX (.int fE (fE.wrap (t+s))):=fun l j V _ _ _ _=>by simp [execOp,eqGuard,V.aT Q,V.aT az,binOp,Op.intArith]
def U.sub(Q:aT D e=some (.int fE t))(az:aT D F=some (.int fE s)):U i D (.binOp .sub Y e F Y) aX (.int fE (fE.wrap (t-s))):=fun l j V _ _ _ _=>by simp [execOp,eqGuard,V.aT Q,V.aT az,binOp,Op.intArith]
def U.mul(Q:aT D e=some (.int fE t))(az:aT D F=some (.int fE s)):U i D (.binOp .mul Y e F Y) aX (.int fE (fE.wrap (t*s))):=fun l j V _ _ _ _=>by simp [execOp,eqGuard,V.aT Q,V.aT az,binOp,Op.intArith]
def U.lss(Q:aT D e=some (.int fE t))(az:aT D F=some (.int fE s)):U i D (.binOp .lss Y e F Y) aX (.bool (decide (t < s))):=fun l j V _ _ _ _=>by simp [execOp,eqGuard,V.aT Q,V.aT az,binOp,Op.intCmp]
def U.leq(Q:aT D e=some (.int fE t))(az:aT D F=some (.int fE s)):U i D (.binOp .leq Y e F Y) aX (.bool (decide (t≤s))):=fun l j V _ _ _ _=>by simp [execOp,eqGuard,V.aT Q,V.aT az,binOp,Op.intCmp]
def U.gtr(Q:aT D e=some (.int fE t))(az:aT D F=some (.int fE s)):U i D (.binOp .gtr Y e F Y) aX (.bool (decide (s < t))):=fun l j V _ _ _ _=>by simp [execOp,eqGuard,V.aT Q,V.aT az,binOp,Op.intCmp]
def U.geq(Q:aT D e=some (.int fE t))(az:aT D F=some (.int fE s)):U i D (.binOp .geq Y e F Y) aX (.bool (decide (s≤t))):=fun l j V _ _ _ _=>by simp [execOp,eqGuard,V.aT Q,V.aT az,binOp,Op.intCmp]
def U.eql(Q:aT D e=some (.int fE t))(az:aT D F=some (.int fE s)):U i D (.binOp .eql Y e F Y) aX (.bool (decide (t=s))):=fun l j V _ _ _ _=>by simp [execOp,eqGuard,V.aT Q,V.aT az,binOp,Op.intCmp];rfl
def U.neq(Q:aT D e=some (.int fE t))(az:aT D F=some (.int fE s)):U i D (.binOp .neq Y e F Y) aX (.bool (decide (t≠s))):=fun l j V _ _ _ _=>by
  simp [execOp,eqGuard,V.aT Q,V.aT az,binOp,Op.intCmp];rfl
end
def AN{t:Int}(c:-9223372036854775808≤t∧t≤9223372036854775807):IntKind.i64.wrap t=t:=by rw [IntKind.wrap_i64];omega
section
variable {t s:Int}
def U.hJ(Q:aT D e=some (.b t))(az:aT D F=some (.b s))(c:-9223372036854775808≤t+s∧t+s≤9223372036854775807):U i D (.binOp .add Y e F Y) aX (.b (t+s)):=by
  have:=U.add (i:=i) (Y:=Y) (aX:=aX) Q az;rwa [AN c] at this
def U.lG(Q:aT D e=some (.b t))(az:aT D F=some (.b s))(c:-9223372036854775808≤t-s∧t-s≤9223372036854775807):U i D (.binOp .sub Y e F Y) aX (.b (t-s)):=by
  have:=U.sub (i:=i) (Y:=Y) (aX:=aX) Q az;rwa [AN c] at this
end
def U.fieldAddr{aH:Array Field}{z:Field}{L off b H l0:Nat}(cF:∀ j,(underlying Y).run i.o j=.ok (.struct aH) j)(bc:aH[b]?=some z)(W:∀ j,(sizeOf z.type).run i.o j=.ok H j)(nh:Nat.blt 0 H=true)
    (Q:aT D e=some (.pointer (some ⟨L,off,none⟩))) (bw:off+z.offset=l0):U i D (.fieldAddr Y e b) aX (.pointer (some ⟨L,l0,none⟩)):=fun l j V _ _ _ _=>by
  have bB:H≠0:=fun r=>by subst r;simp [Nat.blt] at nh
  subst bw
  have rO:Addr.add ⟨L,off,none⟩ z.offset=⟨L,off+z.offset,none⟩:=by unfold Addr.add;split<;>simp_all
  simp [execOp,V.aT Q,Instr.fieldAt,cF,bc,Instr.sureAddr,fieldPlace,W,bB,rO]
def U.indexAddr{r L off H:Nat}{len cap:Nat}{t:Int}(cF:∀ j,(underlying Y).run i.o j=.ok (.slice r) j)(W:∀ j,(sizeOf r).run i.o j=.ok H j)
    (Q:aT D e=some (.slice (some ⟨L,off,none⟩) len cap)) (az:aT D F=some (.b t)) (bB:0≤t) (G:t < len):U i D (.indexAddr Y e F) aX (.pointer (some ⟨L,off+t.toNat*H,none⟩)):=fun l j V _ _ _ _=>by
  have rO:Addr.add ⟨L,off,none⟩ (t.toNat*H)=⟨L,off+t.toNat*H,none⟩:=by unfold Addr.add;split<;>simp_all
  simp [execOp,V.aT Q,V.aT az,Instr.indexAt,asIntOf,cF,W,bB,G,rO]
def U.anx{len r L off H:Nat}{t:Int}(cF:∀ j,(underlying Y).run i.o j=.ok (.array len r) j)(W:∀ j,(sizeOf r).run i.o j=.ok H j)
    (Q:aT D e=some (.pointer (some ⟨L,off,none⟩))) (az:aT D F=some (.b t)) (bB:0≤t) (G:t < len):U i D (.indexAddr Y e F) aX (.pointer (some ⟨L,off+t.toNat*H,none⟩)):=fun l j V _ _ _ _=>by
  exact adB
def U.len{ar:Option Addr}{r s cap:Nat}(cF:∀ j,(underlying Y).run i.o j=.ok (.slice r) j)(Q:aT D e=some (.slice ar s cap)) :
    U i D (.call { callee:=.builtin .len,args:=#[e],argTypes:=#[Y] }) aX (.b s):=fun l j V _ _ _ _=>by
  simp [execOp,resolve,invoke,builtin,Builtin.len_,V.aT Q,cF,goInt]
def U.max{t s:Int}(Q:aT D e=some (.b t))(az:aT D F=some (.b s)){eW:Array TypeId} :
    U i D (.call { callee:=.builtin .max,args:=#[e,F],argTypes:=eW }) aX (.b (if s > t then s else t)):=fun l j V _ _ _ _=>by
  simp [execOp,resolve,invoke,builtin,Builtin.max_,Builtin.max2,V.aT Q,V.aT az]
def U.min{t s:Int}(Q:aT D e=some (.b t))(az:aT D F=some (.b s)){eW:Array TypeId} :
    U i D (.call { callee:=.builtin .min,args:=#[e,F],argTypes:=eW }) aX (.b (if s < t then s else t)):=fun l j V _ _ _ _=>by
  simp [execOp,resolve,invoke,builtin,Builtin.min_,Builtin.min2,V.aT Q,V.aT az]
def fr(o:Program)(Y:TypeId)(ay:List Value)(off:Nat)(m:Value):Prop :=
  ((∀ j,(isAgg Y).run o j=.ok false j)∧ay[off]?=some m) ∨
  (∃ H ae,(∀ j,(isAgg Y).run o j=.ok true j)∧(∀ j,(sizeOf Y).run o j=.ok H j)∧(ay.drop off).take H=ae∧ae.length=H∧m=.agg ae.toArray)
def fr.one{o:Program}{Y:TypeId}{ay:List Value}{off:Nat}{m:Value}(c:∀ j,(isAgg Y).run o j=.ok false j)(aS:ay[off]?=some m):fr o Y ay off m:=.inl ⟨c,aS⟩
def fr.agg{o:Program}{Y:TypeId}{ay:List Value}{off H:Nat}(ae:List Value)(c:∀ j,(isAgg Y).run o j=.ok true j)(W:∀ j,(sizeOf Y).run o j=.ok H j)(aS:(ay.drop off).take H=ae)(S:ae.length=H):fr o Y ay off (.agg ae.toArray) :=
  .inr ⟨H,ae,c,W,aS,S,rfl⟩
def P3{o:Program}{Y:TypeId}{ay:List Value}{off:Nat}{m:Value}{j:World}{L v:Nat}(aS:fr o Y ay off m)(c:∀ k aG,ay[k]?=some aG→j.cell? ⟨L,v+k,none⟩=some aG):(loadVar Y ⟨L,v+off,none⟩).run o j=.ok m j:=by
  rcases aS with ⟨G,J⟩|⟨H,ae,G,J,aA,aZ,rfl⟩
  · have:=c off m J
    simp only [loadVar,nn,G,k7]
    simp [load,Sem.run,this]
  · have S:(loadCells ⟨L,v+off,none⟩ ae.length).run o j=.ok ae.toArray j:=run_loadCells_list (P:=o) j ⟨L,v+off,none⟩ ae (fun k aG ag=>by
      have rO:(⟨L,v+off,none⟩:Addr).add k=⟨L,v+(off+k),none⟩:=by unfold Addr.add;split<;>simp_all [QR]
      rw [rO]
      refine c _ _ ?_
      rw [←aA,k6] at ag
      split at ag
      · rwa [xx] at ag
      · cases ag)
    rw [aZ] at S
    simp [loadVar,G,J,S]
section
variable {e F:Operand} {Y:TypeId}
def aV.load(b:Nat){L off:Nat}{ay:List Value}{u:TypeId}(Q:aT D e=some (.pointer (some ⟨L,off,none⟩)))(ac:C[b]?=some (ai L ay u))(aS:fr i.o Y ay off m):aV i D C (.load Y e) aX m:=fun _ l j V W _ _ _ _=>by
  have d_:j.heap[L]?=some (.cells ay.toArray u (0,0)):=W.cC _ (eF ac)
  have:=P3 (j:=j) (L:=L) (v:=0) aS (fun k aG ag=>by rw [uM,cell_of_row j L k _ u _ d_];simpa using ag)
  rw [uM] at this
  exact acV
end
end
end
end Go.LK
namespace Go.LK
open Go Go.RowKit
def jT:Value→Nat
  | .slice (some l) _ _=>l.block
  | _=>0
def kN:Value→Nat
  | .slice (some l) _ _=>l.off
  | _=>0
structure oV (j:World) (m:Value) (H:Nat) (bZ:List (List Value)):Prop where
  len:∀ e∈bZ,e.length=H
  zY:∃ ar cap,m=.slice ar bZ.length cap∧bZ.length≤cap∧cap≤maxLen
  wB:bZ≠[]→∃ cap,m=.slice (some ⟨jT m,kN m,none⟩) bZ.length cap
  cells:∀ b r k aG,bZ[b]?=some r→r[k]?=some aG→j.cell? ⟨jT m,kN m+b*H+k,none⟩=some aG
def ahz{j bQ:World}{p v:Nat}(c:bQ.heap[p]?=j.heap[p]?):bQ.cell? ⟨p,v,none⟩=j.cell? ⟨p,v,none⟩:=World.cell?_of_block c
def ahy{j:World}{p v:Nat}{aG:Value}(c:j.cell? ⟨p,v,none⟩=some aG):p < j.heap.size:=World.block_lt_of_cell? j ⟨p,v,none⟩ c
def zN(p v k:Nat):(⟨p,v,none⟩:Addr).add k=⟨p,v+k,none⟩:=by unfold Addr.add;split<;>simp_all
def bF(m:Value)(H:Nat)(bZ:List (List Value)):aB where
  dT:=if bZ.flatten=[] then [] else [jT m]
  holds j:=oV j m H bZ
  lt j c d R:=by
    split at R
    · cases R
    · rename_i ea
      simp only [nm] at R
      subst R
      obtain ⟨r,aC,Ao⟩:∃ r,r∈bZ∧r≠[] :=
        zc fun aS=>ea (K1.2 fun r aC=>zc fun gH=>aS ⟨r,aC,gH⟩)
      obtain ⟨b,ac⟩:=kw.1 aC
      obtain ⟨aG,th,rfl⟩:=List.exists_cons_of_ne_nil Ao
      exact ahy (c.cells b _ 0 aG ac rfl)
  oM j bQ c d_:=⟨d_.len,d_.zY,d_.wB,fun b r k aG ac ag=>by
    have ea:bZ.flatten≠[]:=fun aS=>by
      have:=K1.1 aS r (eF ac)
      subst this
      simp at ag
    rw [ahz (c (jT m) (by rw [be ea];simp))]
    exact d_.cells b r k aG ac ag⟩
def EL{H:Nat}:∀ {bZ:List (List Value)} {b:Nat} {r:List Value} {k:Nat} {aG:Value},(∀ e∈bZ,e.length=H)→bZ[b]?=some r→r[k]?=some aG→bZ.flatten[b*H+k]?=some aG
  | [],b,r,k,aG,_,ac,_=>by simp at ac
  | e :: bZ,0,r,k,aG,S,ac,ag=>by
    simp at ac;subst ac
    obtain ⟨ca,_⟩:=dD.1 ag
    simp only [DC,aax,uM]
    rw [to ca];exact ag
  | e :: bZ,b+1,r,k,aG,S,ac,ag=>by
    have Q:=S e oU
    simp only [DC]
    rw [Du abp]
    rw [Q,show (b+1)*H+k-H=b*H+k from by rw [Bv];omega]
    exact EL (fun F az=>S F (by simp [az])) Lx ag
def r3{H:Nat}:∀ {bZ:List (List Value)},(∀ e∈bZ,e.length=H)→bZ.flatten.length=bZ.length*H
  | [],_=>by simp
  | e :: bZ,S=>by
    simp only [DC,eh,e6]
    rw [S e oU,r3 (fun F az=>S F (by simp [az])),Bv];omega
def row(m:Value)(u:TypeId)(H:Nat)(bZ:List (List Value)):aB where
  dT:=m.ownBlock.toList
  holds j:=j.ownsRow 0 u H m bZ.length bZ.flatten∧∀ e∈bZ,e.length=H
  lt j c:=(fy m u H bZ.length bZ.flatten).lt j c.1
  oM j bQ c d_:=⟨(fy m u H bZ.length bZ.flatten).oM j bQ c d_.1,d_.2⟩
def P1{j:World}{m:Value}{u:TypeId}{H:Nat}{bZ:List (List Value)}(c:(row m u H bZ).holds j):oV j m H bZ:=by
  obtain ⟨bw,S⟩:=c
  rcases bw.2 with ⟨rfl,aw⟩|⟨L,cap,fF,rfl,_,bq,pT,pP,jb,pg⟩
  · have:bZ=[]:=By aw
    subst this
    exact ⟨by simp,⟨none,0,rfl,by simp,by simp [maxLen]⟩,fun c=>absurd rfl c,fun b r k aG ac=>by simp at ac⟩
  · refine ⟨S,⟨_,cap,rfl,pT,pP⟩,fun _=>⟨cap,rfl⟩,fun b r k aG ac ag=>?_⟩
    have G:=EL S ac ag
    have:=bw.cells (g:=L) rfl _ aG G
    have rO:(⟨L,0,none⟩:Addr).add (b*H+k)=⟨L,0+b*H+k,none⟩:=by unfold Addr.add;split<;>simp_all
    rw [rO] at this
    exact this
def atD{j:World}{m:Value}{u:TypeId}{H:Nat}{bZ:List (List Value)}(c:(row m u H bZ).holds j):∀ d∈(bF m H bZ).dT,d∈(row m u H bZ).dT:=by
  intro d R
  simp only [bF] at R
  split at R
  · cases R
  · rename_i ea
    simp only [nm] at R
    subst R
    rcases c.1.2 with ⟨rfl,aw⟩|⟨L,cap,fF,rfl,_⟩
    · have:bZ=[]:=By aw
      subst this
      exact absurd rfl ea
    · simp [row,Value.ownBlock,jT]
section
variable {i:cM} {d:List eH} {D:bW} {C:List aB} {ak:Array Oper} {bv:List Oper} {aX:TypeId} {m X:Value} {e F aI:Operand} {Y u:TypeId} {H:Nat} {bZ:List (List Value)}
def ax(i:cM)(C:List aB)(m:Value)(H:Nat)(bZ:List (List Value)):Prop:=i.bC→∀ j,cl i.an i.bL C j→oV j m H bZ
def ax.b0(b:Nat)(ac:i.dO[b]?=some (bF m H bZ)):ax i C m H bZ:=fun ok _ W=>i.b0 ok W ac
def ax.row(b:Nat)(ac:C[b]?=some (row m u H bZ)):ax i C m H bZ:=fun _ _ W=>P1 (W.cC _ (eF ac))
def ax.bF(b:Nat)(ac:C[b]?=some (LK.bF m H bZ)):ax i C m H bZ:=fun _ _ W=>W.cC _ (eF ac)
def eZ(i:cM)(C:List aB)(L v:Nat)(ay:List Value):Prop:=i.bC→∀ j,cl i.an i.bL C j→∀ k aG,ay[k]?=some aG→j.cell? ⟨L,v+k,none⟩=some aG
def eZ.ai{L:Nat}{ay:List Value}(b:Nat)(ac:C[b]?=some (LK.ai L ay u)):eZ i C L 0 ay:=fun _ j W k aG ag=>by
  have d_:j.heap[L]?=some (.cells ay.toArray u (0,0)):=W.cC _ (eF ac)
  exact L0
def eZ.lF{L:Nat}{ay:List Value}(b:Nat)(ac:i.dO[b]?=some (LK.ai L ay u)):eZ i C L 0 ay:=fun ok j W k aG ag=>by
  have d_:j.heap[L]?=some (.cells ay.toArray u (0,0)):=i.b0 ok W ac
  exact L0
def eZ.aiK{b:Nat}{r:List Value}(W:ax i C m H bZ)(ac:bZ[b]?=some r):eZ i C (jT m) (kN m+b*H) r:=fun ok j ci k aG ag=>(W ok j ci).cells b r k aG ac ag
def aV.hh{L n v off:Nat}{ay:List Value}(Q:aT D e=some (.pointer (some ⟨L,n,none⟩)))(aS:eZ i C L v ay)(ad:n=v+off)(bp:fr i.o Y ay off m):aV i D C (.load Y e) aX m:=fun ok l j V W _ _ _ _=>by
  have:=P3 (j:=j) bp (aS ok j W)
  subst ad
  exact acV
def aV.apj{r:Nat}(cF:∀ j,(underlying Y).run i.o j=.ok (.slice r) j)(Q:aT D e=some X)(W:ax i C X H bZ) :
    aV i D C (.call { callee:=.builtin .len,args:=#[e],argTypes:=#[Y] }) aX (.b bZ.length):=fun ok l j V ci _ _ _ _=>by
  obtain ⟨ar,cap,ba,_⟩:=(W ok j ci).zY
  exact U.len cF (e:=e) (D:=D) (by rw [Q,ba]) l j V _ _ _ _
def aV.ann{r:Nat}{t:Int}(cF:∀ j,(underlying Y).run i.o j=.ok (.slice r) j)(ce:∀ j,(sizeOf r).run i.o j=.ok H j)(Q:aT D e=some X)(W:ax i C X H bZ)(az:aT D F=some (.b t))(bB:0≤t)(G:t < bZ.length) :
    aV i D C (.indexAddr Y e F) aX (.pointer (some ⟨jT X,kN X+t.toNat*H,none⟩)):=fun ok l j V ci _ _ _ _=>by
  obtain ⟨cap,ba⟩:=(W ok j ci).wB (fun aS=>by subst aS;simp at G;omega)
  exact U.indexAddr cF ce (e:=e) (F:=F) (D:=D) (by rw [Q];exact dz some ba) az bB G l j V _ _ _ _
def Cq(j:World)(v:Obj):Frame j [] (j.alloc v):=⟨rfl,rfl,rfl,by simp,fun d R _=>Below.heap_alloc j v d R⟩
def cl.alloc{an j:World}{bL:List Nat}(c:cl an bL C j)(v:Obj):cl an bL (cE j.heap.size v :: C) (j.alloc v) :=
  c.add (Cq j v) (heap_alloc_new j v) (by simp [cE])
def lJ{o:Program}{v:Oper}{l:Act}{j bQ:World}{m:Value}{bN:Act→World→Prop}{cz:Exit→Act→World→Prop}(c:(execOp l.eval v).run o j=.ok (.value m) bQ)(R:bN (l.put v.dst m) bQ):v.wp o l j bN cz:=by
  exact RW
def KH{o:Program}{v:Oper}{l:Act}{j bQ:World}{bN:Act→World→Prop}{cz:Exit→Act→World→Prop}(c:(execOp l.eval v).run o j=.ok .skip bQ)(R:bN (l.put v.dst undef) bQ):v.wp o l j bN cz:=by
  exact RW
def A_(o:Program)(u:TypeId)(ay:Array Value)(j:World):(newRow u ay).run o j=.ok ⟨j.heap.size,0,none⟩ (j.alloc (.cells ay u)):=by
  simp [newRow,newObj,Sem.run]
def aq.alloc{aG:Value}(ay:List Value)(ce:∀ j,(zeroValue Y).run i.o j=.ok aG j)(aS:aG.cells=ay.toArray):aq i D C (.alloc Y) aX fun m B=>∃ L,m=.n L∧B=ai L ay Y :: C:=fun _ l j _ W y pos cT L bN cz dj =>
  lJ (m:=.n j.heap.size) (bQ:=j.alloc (.cells ay.toArray Y)) (by simp [execOp,Instr.alloc,ce,newVar,aS,A_])
    (dj _ _ _ ⟨_,rfl,rfl⟩ (W.alloc _))
def aq.box{aG:Value}(ay:List Value)(Q:aT D e=some aG)(aS:aG.cells=ay.toArray):aq i D C (.box Y e) aX fun m B=>∃ L,m=.n L∧B=ai L ay Y :: C:=fun _ l j V W y pos cT L bN cz dj =>
  lJ (m:=.n j.heap.size) (bQ:=j.alloc (.cells ay.toArray Y)) (by simp [execOp,Instr.box,V.aT Q,newVar,aS,A_])
    (dj _ _ _ ⟨_,rfl,rfl⟩ (W.alloc _))
def Qc(j:World)(L:Nat)(ay:Array Value):Frame j [L] (j.setRow L ay) :=
  ⟨rfl,rfl,rfl,by simp [World.setRow],fun d _ R=>setRow_other j L d ay (by simpa using R)⟩
def YX{o:Program}{j:World}{L v l3:Nat}{fF:Array Value}{u Y:TypeId}{aG:Value}{ae:List Value}(bq:j.heap[L]?=some (.cells fF u (0,0)))(W:∀ j,(sizeOf Y).run o j=.ok l3 j)(aS:aG.cells=ae.toArray)(S:ae.length=l3)
    (G:∀ m∈ae,m.oneCell'=true) (As:v+l3≤fF.size) :
    (storeVar Y ⟨L,v,none⟩ aG).run o j=.ok () (j.setRow L (fF.toList.take v++ae++fF.toList.drop (v+ae.length)).toArray):=by
  have:=run_storeCells_at o L v u ae 0 fF j bq E G
  simp only [DD] at this
  simp [storeVar,W,aS,S,this]
def aq.store(b:Nat){L off l3:Nat}{ay ae:List Value}{aG:Value}(kA:List Value)(Q:aT D e=some (.pointer (some ⟨L,off,none⟩)))(az:aT D F=some aG)(ac:C[b]?=some (ai L ay u))(W:∀ j,(sizeOf Y).run i.o j=.ok l3 j)
    (aS:aG.cells=ae.toArray) (S:ae.length=l3) (G:(ae.all Value.oneCell')=true) (jb:ay.take off++ae++ay.drop (off+ae.length)=kA) (As:Nat.ble (off+l3) ay.length=true) :
    aq i D C (.store Y e F) aX fun _ B=>B=C.set b (ai L kA u):=fun _ l j V ci y pos cT rJ bN cz dj=>by
  have d_:j.heap[L]?=some (.cells ay.toArray u (0,0)):=ci.cC _ (eF ac)
  have cs:=YX (o:=i.o) (v:=off) d_ W aS S Rm (by simpa using kc As)
  refine KH (bQ:=j.setRow L kA.toArray) (by simp [execOp,V.aT Q,V.aT az,Instr.storeAt,Instr.sureAddr,cs,←jb]) ?_
  exact dj _ _ _ rfl (ci.set ac (Qc j L _) (setRow_heap j L _ _ u (0,0) d_) (fun d R=>.inl R))
def UF{H:Nat}:∀ {bZ:List (List Value)} {b:Nat} {r mb:List Value},(∀ e∈bZ,e.length=H)→bZ[b]?=some r→mb.length=H→bZ.flatten.take (b*H)++mb++bZ.flatten.drop (b*H+H)=(bZ.set b mb).flatten
  | [],b,r,mb,_,ac,_=>by simp at ac
  | e :: bZ,0,r,mb,S,ac,aC=>by
    have Q:=S e oU
    simp only [DC,aax,K5,lK,uM,List.set_cons_zero]
    rw [←Q,List.drop_left]
  | e :: bZ,b+1,r,mb,S,ac,aC=>by
    have Q:=S e oU
    have b6:=UF (H:=H) (bZ:=bZ) (b:=b) (r:=r) (mb:=mb) (fun F az=>S F (by simp [az])) Lx aC
    simp only [DC,List.set_cons_succ]
    rw [←b6,Q_,List.drop_append,ir abp,QV abp,
      Q,show (b+1)*H-H=b*H from by rw [Bv];omega,show (b+1)*H+H-H=b*H+H from by rw [Bv];omega]
    simp [ia]
def avI{n6 r ae:List Value}{H k off:Nat}(ao:(n6.drop (k*H)).take H=r)(c:off+ae.length≤H)(ax3:k*H+H≤n6.length) :
    n6.take (k*H)++(r.take off++ae++r.drop (off+ae.length))++n6.drop (k*H+H)=n6.take (k*H+off)++ae++n6.drop (k*H+off+ae.length):=by
  have G:n6.take (k*H+off)=n6.take (k*H)++r.take off:=by
    rw [List.take_add,←ao,GK,DI E]
  have J:n6.drop (k*H+off+ae.length)=r.drop (off+ae.length)++n6.drop (k*H+H):=by
    rw [show k*H+off+ae.length=k*H+(off+ae.length) from by omega,←DH (i:=off+ae.length),←ao]
    rw [←List.drop_append_of_le_length v1,←DH (i:=H),kQ]
  rw [G,J]
  simp [ia]
def avJ(fF:List Value)(h l:Nat)(ae:List Value){n6:List Value}(c:l+ae.length≤h)(bf:h≤fF.length)(mh:fF.take h=n6) :
    (fF.take l++ae++fF.drop (l+ae.length)).take h=n6.take l++ae++n6.drop (l+ae.length):=by
  subst mh
  rw [Q_,ir v1,GK,DI E,List.drop_take]
  congr 2
  simp
  omega
def aq.avN(b:Nat){L n k off l3:Nat}{r ae:List Value}{aG:Value}(mb:List Value)(Q:aT D e=some (.pointer (some ⟨L,n,none⟩)))(az:aT D F=some aG)(ac:C[b]?=some (row X u H bZ))(bq:L=jT X)(ad:n=kN X+k*H+off)
    (ag:bZ[k]?=some r) (W:∀ j,(sizeOf Y).run i.o j=.ok l3 j)
    (aS:aG.cells=ae.toArray) (S:ae.length=l3) (G:(ae.all Value.oneCell')=true) (jb:r.take off++ae++r.drop (off+ae.length)=mb) (As:off+l3≤H) :
    aq i D C (.store Y e F) aX fun _ B=>B=C.set b (row X u H (bZ.set k mb)):=fun _ l j V ci y pos cT rJ bN cz dj=>by
  have d_:=ci.cC _ (eF ac)
  obtain ⟨bw,gI⟩:=d_
  have pb:k < bZ.length:=(dD.1 ag).1
  have Ap:r.length=H:=gI r (eF ag)
  rcases bw.2 with ⟨rfl,aw⟩|⟨p,cap,fF,rfl,_,av,pT,pP,aAj,pg⟩
  · omega
  · have akG:L=p:=bq
    subst akG
    have AD:n=k*H+off:=by simpa [kN] using ad
    subst AD
    have q0:mb.length=H:=by rw [←jb];simp;omega
    have aAf:(k+1)*H≤bZ.length*H:=QZ H pb
    have aAg:bZ.length*H≤cap*H:=QZ H pT
    have ue:(k+1)*H=k*H+H:=by rw [Bv];omega
    have cs:=YX (o:=i.o) (v:=k*H+off) av W aS S Rm E
    refine KH (bQ:=j.setRow L (fF.toList.take (k*H+off)++ae++fF.toList.drop (k*H+off+ae.length)).toArray) (by simp [execOp,V.aT Q,V.aT az,Instr.storeAt,Instr.sureAddr,cs]) ?_
    refine dj _ _ _ rfl (ci.set ac (by simpa [row,Value.ownBlock] using Qc j L _) ?_ (fun d R=>.inl R))
    have IT:∀ e∈bZ.set k mb,e.length=H:=fun e Q=>by
      rcases List.mem_or_eq_of_mem_set Q with Q|Q
      · exact gI e Q
      · rw [Q];exact q0
    refine ⟨⟨by rw [r3 IT],.inr ⟨L,cap,_,by simp,GG _,setRow_heap j L _ _ u (0,0) av,by simpa using pT,pP,?_,?_⟩⟩,IT⟩
    · simp only [GP,eh,ib,hw,K8];omega
    · have mh:fF.toList.take (bZ.length*H)=bZ.flatten:=pg
      have J:=UF gI ag q0
      rw [ol,←J,←jb]
      have ao:(bZ.flatten.drop (k*H)).take H=r:=by
        apply xz
        intro t
        rw [k6]
        by_cases bh:t < H
        · obtain ⟨Gx,ph⟩:∃ Gx,r[t]?=some Gx:=⟨_,et E⟩
          rw [ee bh,xx,ph,EL gI ag ph]
        · rw [be bh,vU E]
      have aAp:bZ.flatten.length=bZ.length*H:=r3 gI
      rw [avI (n6:=bZ.flatten) (H:=H) (off:=off) (ae:=ae) ao E E]
      exact avJ fF.toList (bZ.length*H) (k*H+off) ae E v1 mh
def aq.append(b:Nat){q:Value}{pU:List (List Value)}{r:TypeId}{jm:TypeInfo}{eU:Value}{bytes:Nat}(cF:i.o.underlying Y=some (.slice u))(q3:i.o.info? u=some jm)(ce:jm.zero=some eU)(ni:jm.size=H)(Ah:jm.bytes=bytes)(FE:eU.cells.size=H)(nh:0 < H)
    (Q:aT D e=some X) (ac:C[b]?=some (row X u H bZ)) (az:aT D F=some q) (W:ax i C q H pU) (G:∀ r∈pU,r.all Value.oneCell'=true)
    (u':bZ.length+pU.length≤maxLen) (av:(bZ.length+pU.length)*bytes≤140737488355328) :
    aq i D C (.call { callee:=.builtin .append,args:=#[e,F],argTypes:=#[Y,Y] }) r fun m B=>B=C.set b (row m u H (bZ++pU)):=fun ok l j V ci y pos cT rJ bN cz dj=>by
  have d_:=ci.cC _ (eF ac)
  obtain ⟨bw,gI⟩:=d_
  have ie:=W ok j ci
  have ve:=r3 ie.len
  have IT:∀ e∈bZ++pU,e.length=H:=fun e Q=>by
    rcases iE.1 Q with Q|Q
    · exact gI e Q
    · exact ie.len e Q
  obtain ⟨ar,cap,ba,_⟩:=ie.zY
  rcases ar with _|mY
  · have aw:pU=[]:=zc fun aw=>by
      obtain ⟨u9,I2⟩:=ie.wB aw
      rw [ba] at I2;cases I2
    subst aw
    have oH:(Builtin.append_ #[Y,Y] r #[X,.slice none 0 cap]).run i.o j=.ok X j:=by
      clear dj ci W ie ba
      generalize bZ.length=s at *
      rcases bw.2 with ⟨rfl,rfl⟩|⟨L,u9,fF,rfl,_,_,pT,_⟩
      · simp [Builtin.append_,jf cF,sizeOf,typeInfo,q3,Builtin.lenOf,Builtin.firstCells]
      · simp [Builtin.append_,jf cF,sizeOf,typeInfo,q3,Builtin.lenOf,Builtin.firstCells,pT,storeCells]
    refine lJ (m:=X) (bQ:=j) ?_ (dj _ _ _ rfl ?_)
    · have jM:l.eval F=.slice none 0 cap:=by rw [V.aT az,ba];rfl
      simp [execOp,resolve,invoke,builtin,V.aT Q,jM,oH]
    · exact ci.set ac (Frame.refl j _) (by rw [xA];exact ⟨bw,gI⟩) (fun d R=>.inl R)
  · have N5:∀ k aG,pU.flatten[k]?=some aG→j.cell? (mY.add k)=some aG:=fun k aG bp=>by
      have aw:pU≠[]:=fun aw=>by subst aw;simp at bp
      obtain ⟨u9,I2⟩:=ie.wB aw
      have II:mY=⟨jT q,kN q,none⟩:=by
        have bB:=ba.symm.trans I2
        injection bB with bB
        injection bB
      have ag:k < pU.length*H:=by rw [←ve];exact (dD.1 bp).1
      have Al:k / H < pU.length:=aaD (by rw [La];exact ag)
      have bh:k%H < H:=Nat.mod_lt _ nh
      have IQ:k / H*H+k%H=k:=by rw [La];exact Nat.div_add_mod k H
      obtain ⟨mb,q0⟩:∃ mb,pU[k / H]?=some mb:=⟨_,et Al⟩
      have h9:=ie.len mb (eF q0)
      obtain ⟨Gx,ph⟩:∃ Gx,mb[k%H]?=some Gx:=⟨_,et E⟩
      have J:=EL ie.len q0 ph
      rw [IQ,bp] at J
      cases J
      have aA:=ie.cells _ _ _ _ q0 ph
      rw [QR,IQ] at aA
      rw [II,zN];exact aA
    have yg:∀ aG∈pU.flatten,aG.oneCell'=true:=fun aG bp=>by
      obtain ⟨mb,q0,ph⟩:=List.mem_flatten.1 bp
      exact rj.1 (G mb q0) aG ph
    obtain ⟨sb,bQ,cs,J,aA,aZ,bT⟩:=run_append_own_at (P:=i.o) j 0 Y r u jm eU H bytes cF q3 ce ni Ah FE nh X bZ.length bZ.flatten bw mY pU.length cap pU.flatten ve N5 yg u' av (GG _)
    refine lJ (m:=sb) (bQ:=bQ) ?_ (dj _ _ _ rfl ?_)
    · have jM:l.eval F=.slice (some mY) pU.length cap:=by rw [V.aT az];exact ba
      simp [execOp,resolve,invoke,builtin,V.aT Q,jM,cs]
    · refine ci.set ac ⟨aA.os,aA.tape,aA.output,aA.size,fun d R aw=>aA.block d R (fun r=>aw (by simp [row,←r]))⟩ ⟨by simpa using J,IT⟩ (fun d R=>?_)
      have hB:sb.ownBlock=some d:=by simpa [row] using R
      rcases bT with bT|bT
      · exact .inl (by simp [row,←bT,hB])
      · rw [hB] at bT;cases bT;exact .inr (oQ _)
def w.lC(u:TypeId)(H:Nat)(c:w i ak bv d D (row (.slice none 0 0) u H [] :: C)):w i ak bv d D C:=fun ok l j V W =>
  c ok l j V (W.add (Frame.refl j _) ⟨GU j 0 u H,by simp⟩ zm)
def K.lC(u:TypeId)(H:Nat)(c:K i d D (row (.slice none 0 0) u H [] :: C)):K i d D C:=fun ok l j V W =>
  c ok l j V (W.add (Frame.refl j _) ⟨GU j 0 u H,by simp⟩ zm)
def aq.buildSlice{s:Nat}{lD:List (Nat×Operand)}(ae:List (Nat×Value))(bZ:List (List Value)){eU:Value}(cF:∀ j,(underlying Y).run i.o j=.ok (.slice u) j)(W:∀ j,(sizeOf u).run i.o j=.ok H j)(ce:∀ j,(zeroValue u).run i.o j=.ok eU j)
    (ad:lD.map (fun n=>(n.1,aT D n.2))=ae.map (fun n=>(n.1,some n.2))) (aw:Nat.ble (s*H) 16777216=true) (lV:Nat.blt 0 (s*H)=true)
    (bc:Instr.fill (fun b=>some (b*H,H)) ((Array.range (s*H)).map (eU.cells[·%eU.cells.size]!)) ae=some bZ.flatten.toArray) (S:bZ.length=s) (h9:(bZ.all (fun r=>r.length == H))=true) :
    aq i D C (.buildSlice Y s lD.toArray) aX fun m B=>B=row m u H bZ :: C:=fun _ l j V ci y pos cT L bN cz dj=>by
  have Fs:lD.map (fun n=>(n.1,l.eval n.2))=ae:=by
    exact R3
  have wK:¬(s*H > 2 ^ 24):=by have:=kc aw;omega
  have ea:s*H≠0:=by have:=kc lV;omega
  have ug:∀ e∈bZ,e.length=H:=by simpa using h9
  refine lJ (m:=.slice (some ⟨j.heap.size,0,none⟩) s s) (bQ:=j.alloc (.cells bZ.flatten.toArray u)) ?_ (dj _ _ _ rfl (ci.add (Cq j _) ⟨?_,ug⟩ zm))
  · simp only [execOp,Q']
    simp [Instr.buildSlice,cF,W,ce,Fs,wK,ea,bc,A_]
  · refine ⟨r3 ug,.inr ⟨j.heap.size,s,_,by rw [S],GG _,heap_alloc_new j _,by omega,?_,by simp [r3 ug,S],?_⟩⟩
    · have:=kc aw
      have nh:0 < H:=Nat.pos_of_ne_zero fun r=>ea (by rw [r];simp)
      have:=Nat.le_mul_of_pos_right s nh
      unfold maxLen;omega
    · rw [ir (by simp [r3 ug])]
def U.build{lD:List (Nat×Operand)}{aH:Array Field}(ae:List (Nat×Value))(ay:List Value){eU:Value}(X0:Array (Nat×Nat))(cF:∀ j,(underlying Y).run i.o j=.ok (.struct aH) j)(ce:∀ j,(zeroValue Y).run i.o j=.ok eU j)
    (OB:∀ j,(aH.mapM (m:=Sem) fun z=>Functor.map (Prod.mk z.offset) (sizeOf z.type)).run i.o j=.ok X0 j) (ad:lD.map (fun n=>(n.1,aT D n.2))=ae.map (fun n=>(n.1,some n.2)))
    (bc:Instr.fill (X0[·]?) eU.cells ae=some ay.toArray):U i D (.build Y lD.toArray) aX (.agg ay.toArray):=fun l j V _ _ _ _=>by
  have Fs:lD.map (fun n=>(n.1,l.eval n.2))=ae:=by
    exact R3
  simp only [execOp,Q']
  have alQ:=OB j
  simp [Instr.build,cF,ce,Fs]
  simp [alQ,bc]
def eI(i:cM)(C dW en:List aB):Prop:=i.bC→∀ j,cl i.an i.bL C j→∀ ar∈en,ar.holds j∧∀ d∈ar.dT,d∉ei dW
def eI.nil{dW:List aB}:eI i C dW []:=fun _ _ _ ar bI=>by simp at bI
def eI.b0{dW en:List aB}{ar:aB}(b:Nat)(ac:i.dO[b]?=some ar)(bt:List Nat)(dv:LK.dB C bt=dW)(c:eI i C dW en):eI i C dW (ar :: en):=fun ok j W b2 dP=>by
  rcases fb.1 dP with rfl|dP
  · refine ⟨i.b0 ok W ac,fun d R hB=>?_⟩
    obtain ⟨G,J⟩:=ok b2 (eF ac)
    have Oo:d∈ei C:=by
      rw [←dv] at hB
      obtain ⟨cO,fL,On⟩:=jO.1 hB
      obtain ⟨k,_,ag⟩:=vT.1 fL
      exact jO.2 ⟨cO,eF ag,On⟩
    rcases W.mu d Oo with aA|aA
    · have:=b2.lt _ G d R;omega
    · exact J d R aA
  · exact c ok j W b2 dP
def eI.eo{dW en:List aB}{ar b2:aB}(k:Nat)(ag:C[k]?=some b2)(sK:∀ j,b2.holds j→ar.holds j∧∀ d∈ar.dT,d∈b2.dT)(bt:List Nat)(aw:k∉bt)(dv:LK.dB C bt=dW)(c:eI i C dW en):eI i C dW (ar :: en):=fun ok j W cO fL=>by
  rcases fb.1 fL with rfl|fL
  · obtain ⟨G,J⟩:=sK j (W.cC _ (eF ag))
    refine ⟨G,fun d R hB=>?_⟩
    rw [←dv] at hB
    obtain ⟨b5,mg,alm⟩:=jO.1 hB
    obtain ⟨b,ac,ys⟩:=vT.1 mg
    have ea:k≠b:=fun r=>aw (by rw [r];exact ac)
    exact W.Xr ea ag ys d (J d R) alm
  · exact c ok j W cO fL
def eI.sub{dW en:List aB}(c:∀ ar∈en,ar∈i.dO)(bt:List Nat)(dv:LK.dB C bt=dW):eI i C dW en:=fun ok j W ar bI=>by
  obtain ⟨b,ac⟩:=kw.1 (c ar bI)
  exact eI.b0 (en:=[]) b ac bt dv eI.nil ok j W ar oU
def jz{m:Value}{u:TypeId}{H:Nat}{bZ:List (List Value)}:∀ j,(row m u H bZ).holds j→(bF m H bZ).holds j∧∀ d∈(bF m H bZ).dT,d∈(row m u H bZ).dT:=fun _ c=>⟨P1 c,atD c⟩
def vI{ar:aB}:∀ j,ar.holds j→ar.holds j∧∀ d∈ar.dT,d∈ar.dT:=fun _ c=>⟨c,fun _ R=>R⟩
def aq.Cd{z:FuncId}{dq:List Operand}{eW:Array TypeId}{ae fP:List Value}{en dW:List aB}{post:Value→List aB→Prop}(mI:∀ args j,(callFunc z args).run i.o j=.ok (.enter z args) j)(Q:aT D e=some (.func (.func z) #[] fP.toArray))
    (ly:dq.map (aT D)=ae.map some) (bA:M i.o z (ae++fP).toArray en dW post) (bt ec:List Nat) (aw:(bt++ec).Nodup) (dv:LK.dB C bt=dW) (ah:List aB) (dI:LK.dB C ec=ah) (fM:eI i C dW en) :
    aq i D C (.call { callee:=.value e,args:=dq.toArray,argTypes:=eW }) aX fun m B=>∃ de,post m de∧B=de++ah:=fun ok l j V ci y pos cT L bN cz dj=>by
  have CQ:cl i.an i.bL (dW++ah) j:=by
    exact ab5
  have Fu:=p7.1 CQ.gX
  have fL:cl j (ei dW) dW j:=⟨Frame.refl j _,fun ar bI=>CQ.cC ar xC,Fu.1,fun d R=>.inr R⟩
  have VI:=bA j (fM ok j ci) fL
  have Aq:(execOp l.eval ⟨y,.call { callee:=.value e,args:=dq.toArray,argTypes:=eW },aX,pos,cT,L⟩).run i.o j=.ok (.enter z (ae++fP).toArray) j:=by
    exact ab3
  exact adG
def aq.call{z:FuncId}{dq:List Operand}{eW:Array TypeId}(ae:List Value){en dW:List aB}{post:Value→List aB→Prop}(mI:∀ args j,(callFunc z args).run i.o j=.ok (.enter z args) j)
    (ly:dq.map (aT D)=ae.map some) (bA:M i.o z ae.toArray en dW post) (bt ec:List Nat) (aw:(bt++ec).Nodup) (dv:LK.dB C bt=dW) (ah:List aB) (dI:LK.dB C ec=ah) (fM:eI i C dW en) :
    aq i D C (.call { callee:=.value (.func z),args:=dq.toArray,argTypes:=eW }) aX fun m B=>∃ de,post m de∧B=de++ah :=
  aq.Cd (fP:=[]) (e:=.func z) mI rfl ly Lv bt ec aw dv ah dI fM
def SO(i:cM)(D:bW)(C:List aB):ResultVar→Value→Prop
  | .tmp u,m=>gx D u=some m
  | .cell u Y,m=>∃ L n v off ay,gx D u=some (.pointer (some ⟨L,n,none⟩))∧eZ i C L v ay∧n=v+off∧fr i.o Y ay off m
def zB(i:cM)(D:bW)(C:List aB):List ResultVar→List Value→Prop
  | [],[]=>True
  | Z :: ho,m :: ae=>SO i D C Z m∧zB i D C ho ae
  | _,_=>False
def J8(l:Act):ResultVar→Sem Value
  | .tmp u=>pure (l.tmps.getD u undef)
  | .cell p u=>do loadVar u (← asAddr (l.tmps.getD p undef))
def P5{l:Act}{j:World}(ok:i.bC)(V:hH i.s l D)(W:cl i.an i.bL C j):∀ {ho:List ResultVar} {ae:List Value},zB i D C ho ae→(ho.mapM (J8 l)).run i.o j=.ok ae j
  | [],[],_=>by simp
  | [],_ :: _,c=>c.elim
  | _ :: _,[],c=>c.elim
  | .tmp u :: ho,m :: ae,c=>by
    have b6:=P5 ok V W c.2
    have G:=V.cC u m c.1
    simp only [List.mapM_cons,nn,se,k7,b6,G,J8]
  | .cell u Y :: ho,m :: ae,c=>by
    have b6:=P5 ok V W c.2
    obtain ⟨L,n,v,off,ay,G,J,rfl,aA⟩:=c.1
    have yg:=V.cC u _ G
    have aZ:=P3 (j:=j) aA (J ok j W)
    simp only [List.mapM_cons,nn,se,k7,b6,yg,J8,asAddr,aZ]
def ed:List Value→Value
  | [m]=>m
  | ae=>.tuple ae.toArray
def Fin.mk{ho:List ResultVar}(cs:i.fn.results=ho.toArray)(ae:List Value)(ba:zB i D C ho ae)(bt:List Nat)(aw:bt.Nodup)(B:List aB)(dv:LK.dB C bt=B)(c:∀ j,cl i.an i.bL B j→i.ah (.returned (ed ae)) j):Fin i D C:=fun ok l j V W=>by
  refine ⟨ed ae,?_,c j (dv ▸ W.dB aw)⟩
  have G:=P5 ok V W ba
  have J:results i.fn l.tmps=(do let ae ← i.fn.results.mapM (J8 l);pure (if c:ae.size=1 then ae[0] else .tuple ae)):=rfl
  rw [J,cs,List.mapM_toArray]
  simp only [map_eq_pure_bind,nn,G,k7,se]
  match ae with
  | []=>rfl
  | [m]=>rfl
  | m :: aG :: ae=>simp [ed]
end
end Go.LK
namespace Go.LK
open Go Go.RowKit
section
variable {i:cM} {d:List eH} {D:bW} {C:List aB} {ak:Array Oper} {bv:List Oper} {v:Op} {aX:TypeId} {y:Nat} {pos:String} {cT:Array Edge} {m:Value}
def cl.zS{an j:World}{bL:List Nat}(c:cl an bL C j):cl an bL C { j with drawn:=j.drawn+1 }:=c.drew _
def aj(i:cM)(ak:Array Oper)(Y:World→Act→Prop)(bv:List Oper)(D:bW)(C:List aB):Prop:=i.bC→∀ l j,hH i.s l D→cl i.an i.bL C j→wpStill i.o ak j (Y j) bv l
section
variable {Y:World→Act→Prop}
def Zu{o:Program}{v:Oper}{l:Act}{j:World}{m:Value}{bN:Act→Prop}(c:(execOp l.eval v).run o j=.ok (.value m) j)(R:bN (l.put v.dst m)):v.still o l j bN:=by
  unfold Oper.still;rw [c];exact ⟨rfl,R⟩
def aj.A(a6:aV i D C v aX m)(ao:Nat.blt y i.s=true)(c:aj i ak Y bv ((y,m) :: D) C):aj i ak Y (⟨some y,v,aX,pos,cT,none⟩ :: bv) D C:=fun ok l j V W =>
  wpStill_step fun _ dj=>by
    rw [ee abh]
    exact Sl
def aj.n(a6:U i D v aX m)(ao:Nat.blt y i.s=true)(c:aj i ak Y bv ((y,m) :: D) C):aj i ak Y (⟨some y,v,aX,pos,cT,none⟩ :: bv) D C:=aj.A a6.dg ao c
def aj.t{e:Operand}(Q:aT D e=some m)(ao:Nat.blt y i.s=true)(c:aj i ak Y bv ((y,m) :: D) C):aj i ak Y (⟨some y,.move e,aX,pos,cT,none⟩ :: bv) D C:=aj.n (U.move Q) ao c
def aj.eg{k u:Nat}{db p:Bool}(ag:(ak[k]?).bind (·.dst)=some u)(bA:gx D u=some (.bool p))(av:p=db)(aw:Nat.blt u i.s=true)(a6:aV i D C v aX m)(ao:Nat.blt y i.s=true)
    (c:aj i ak Y bv ((y,m) :: D) C):aj i ak Y (⟨some y,v,aX,pos,cT,some (k,db)⟩ :: bv) D C:=fun ok l j V W =>
  wpStill_step fun _ dj=>by
    rw [xl (k:=k) (u:=u) (db:=db) V rfl ag (av ▸ bA) aw,ee rfl]
    exact Sl
def aj.iI{k u:Nat}{db:Bool}{aG:Value}(ag:(ak[k]?).bind (·.dst)=some u)(bA:gx D u=some aG)(bp:o4 aG≠some db)(aw:Nat.blt u i.s=true)(ao:Nat.blt y i.s=true)
    (c:aj i ak Y bv ((y,undef) :: D) C):aj i ak Y (⟨some y,v,aX,pos,cT,some (k,db)⟩ :: bv) D C:=fun ok l j V W =>
  wpStill_step fun _ dj=>by
    rw [y8 (k:=k) (u:=u) (db:=db) V rfl ag bA bp aw,be oU]
    exact dj _ (c ok _ j (V.put undef ao) W)
end
def aj.Cl{tail:List Oper}(c:w i ak tail d D C):aj i ak (fun j l=>wpList i.o ak (i.cz d) tail l j) [] D C:=fun ok l j V W=>wpStill_nil (c ok l j V W)
def aj.qT(c:K i d D C):aj i ak (fun j l=>i.cz d .normal l j) [] D C:=fun ok l j V W=>wpStill_nil (c ok l j V W)
def K.fD{id:Nat}{f:List Oper}(s:Nat)(bh:i.o.follows .mixedOrders=true)(dP:Region.lexTailB .any f.toArray s=true)(c:aj i f.toArray (fun j l=>wpList i.o f.toArray (i.cz d) (f.drop s) l j) (f.take s) D C) :
    K i (.code (.region id f.toArray true) :: d) D C:=fun ok l j V W=>wp_region_still_tail s bh dP (c ok l _ V W.zS)
def K.kk{id:Nat}{f:List Oper}(bh:i.o.follows .mixedOrders=true)(dP:Region.lexB .any f.toArray=true)(c:aj i f.toArray (fun j l=>i.cz d .normal l j) f D C) :
    K i (.code (.region id f.toArray true) :: d) D C:=fun ok l j V W=>wp_region_still bh dP (by simpa using c ok l _ V W.zS)
def b5(i:cM)(ak:Array Oper)(t:Nat)(cv:Array Bool)(d:List eH)(D:bW)(C:List aB):Prop:=i.bC→∀ l j,hH i.s l D→cl i.an i.bL C j→wpAny i.o .any ak (i.cz d) t cv l j
def aJ(i:cM)(ak:Array Oper)(b t:Nat)(cv:Array Bool)(d:List eH)(D:bW)(C:List aB):Prop:=i.bC→∀ l j,hH i.s l D→cl i.an i.bL C j→wpOp i.o ak (i.cz d) b (wpAny i.o .any ak (i.cz d) t (cv.setIfInBounds b true)) l j
def HL(i:cM)(ak:Array Oper)(t:Nat)(cv:Array Bool)(d:List eH)(D:bW)(C:List aB):List Nat→Prop
  | []=>True
  | b :: ho=>aJ i ak b t cv d D C∧HL i ak t cv d D C ho
def K.aiD{id:Nat}{f:List Oper}(bh:i.o.follows .mixedOrders=true)(cv:Array Bool)(S:Array.replicate f.length false=cv)(c:b5 i f.toArray f.length cv d D C):K i (.code (.region id f.toArray true) :: d) D C:=fun ok l j V W =>
  wp_region_any bh (by simpa [S] using c ok l _ V W.zS)
def HL.mem{t:Nat}{cv:Array Bool}:∀ {ho:List Nat},HL i ak t cv d D C ho→∀ b∈ho,aJ i ak b t cv d D C
  | [],_,b,ac=>by simp at ac
  | k :: ho,c,b,ac=>by
    rcases fb.1 ac with rfl|ac
    · exact c.1
    · exact c.2.mem b ac
def b5.all{t:Nat}{cv:Array Bool}(b:Nat)(ho:List Nat)(cs:Region.ready .any ak cv=b :: ho)(c:HL i ak t cv d D C (b :: ho)):b5 i ak (t+1) cv d D C:=fun ok l j V W =>
  wpAny_all cs oU fun k ag=>c.mem k ag ok l j V W
def b5.done{t:Nat}{cv:Array Bool}(cs:Region.ready .any ak cv=[])(c:K i d D C):b5 i ak t cv d D C:=fun ok l j V W=>wpAny_done cs (c ok l j V W) t
def El{o:Program}{fS:Exit→Act→World→Prop}{wE:List PanicEntry}{l:Act}{j:World}:∀ {d:List eH},tK o fS d (.panic wE) l j=fS (.panic wE) l j
  | []=>rfl
  | .cE _ :: d=>El (d:=d)
  | .code _ :: d=>El (d:=d)
  | .po :: d=>El (d:=d)
  | .gW _ :: d=>El (d:=d)
def b5.take{t:Nat}{cv mq:Array Bool}(b:Nat)(ac:ak[b]?=some ⟨some y,v,aX,pos,cT,none⟩)(W:Region.noSelect ak=true)(bc:Region.free .any ak cv b=true)(cs:(Region.ready .any ak cv).contains b=true)
    (S:cv.setIfInBounds b true=mq) (a6:U i D v aX m) (ao:Nat.blt y i.s=true) (c:b5 i ak t mq d ((y,m) :: D) C):b5 i ak (t+1) cv d D C:=fun ok l j V ci =>
  wpAny_take ac W bc cs (fun wE l _ ad=>by rw [cM.cz,El] at ad ⊢;exact ad) (.inl ⟨by simp [Region.wanted],fun j=>a6 l j V _ _ _ _⟩) (S ▸ c ok _ j (V.put m ao) ci)
def aJ.A{b t:Nat}{cv mq:Array Bool}(ac:ak[b]?=some ⟨some y,v,aX,pos,cT,none⟩)(S:cv.setIfInBounds b true=mq)(a6:aV i D C v aX m)(ao:Nat.blt y i.s=true)(c:b5 i ak t mq d ((y,m) :: D) C):aJ i ak b t cv d D C:=fun ok l j V W=>by
  unfold wpOp
  simp only [ac]
  rw [ee abh]
  exact .inl (KI (a6 ok l j V W _ _ _ _) (S ▸ c ok _ j (V.put m ao) W))
def aJ.f{b t:Nat}{cv mq:Array Bool}{ah:Value→List aB→Prop}(ac:ak[b]?=some ⟨some y,v,aX,pos,cT,none⟩)(S:cv.setIfInBounds b true=mq)(a6:aq i D C v aX ah)(ao:Nat.blt y i.s=true)(c:∀ m B,ah m B→b5 i ak t mq d ((y,m) :: D) B):aJ i ak b t cv d D C:=fun ok l j V W=>by
  unfold wpOp
  simp only [ac]
  rw [ee abh]
  exact .inl (a6 ok l j V W _ _ _ _ _ _ fun m B bQ dI eY=>S ▸ c m B dI ok _ bQ (V.put m ao) eY)
def K.cut{bo:Type}(dH:bo→Prop)(gY:bo→bW)(cJ:bo→List aB){e:Code}(c:K i (.code e :: .gW (AQ i dH gY cJ (fun _=>0) 1) :: d) D C)(gH:∀ F,dH F→K i d (gY F) (cJ F)):K i (.code e :: d) D C:=fun ok l j V W=>by
  refine Code.wp_mono (fun r l j A=>?_) (c ok l j V W)
  cases r with
  | normal =>
    obtain ⟨F,kI,_,E3,eY⟩:=A
    exact gH F kI ok l j E3 eY
  | _=>exact A
end
end Go.LK
namespace Go.LK
open Go Go.RowKit
def JI{m:Value}(c:m.oneCell'=true):m.cells=[m].toArray:=by cases m<;>simp_all [Value.oneCell',Value.cells]
def XH{m:Value}(c:m.oneCell'=true):[m].all Value.oneCell'=true:=by simp [c]
def zW{j:World}{m:Value}{H:Nat}{bZ:List (List Value)}(c:oV j m H bZ):m.oneCell'=true:=by
  obtain ⟨ar,cap,rfl,_⟩:=c.zY
  rfl
def aBQ{iP bi:Type}(z:iP→Nat→bi→iP)(aI:iP)(f:List bi):Nat→iP
  | 0=>aI
  | d+1=>match f[d]? with
    | some r=>z (aBQ z aI f d) d r
    | none=>aBQ z aI f d
def Nj{bi:Type}{n:bi→Bool}{f:List bi}{d:Nat}(aw:∀ k e,k < d→f[k]?=some e→n e=false)(R:f.length≤d):f.find? n=none:=by
  rw [DF]
  intro e Q
  obtain ⟨k,ag⟩:=kw.1 Q
  have ca:=(dD.1 ag).1
  simp [aw k e E ag]
def aqB{bi:Type}{n:bi→Bool}{f:List bi}{d:Nat}{r:bi}(aw:∀ k e,k < d→f[k]?=some e→n e=false)(aC:f[d]?=some r)(ad:n r=false):∀ k e,k < d+1→f[k]?=some e→n e=false:=by
  intro k e ag Q
  by_cases c:k=d
  · subst c;rw [aC] at Q;cases Q;exact ad
  · exact aw k e E Q
def c_{p Z:Bool}(c:(!p)=Z):p=!Z:=by cases p<;>cases Z<;>simp_all
def lZ{p:Bool}(c:p=true):(!p)=false:=by rw [c];rfl
def Pu{p:Bool}(c:p=false):(!p)=true:=by rw [c];rfl
def js{n:Prop}(p:Bool)(G:p=true→n)(J:p=false→n):n:=by cases p;exact J rfl;exact G rfl
section
variable {i:cM} {d:List eH} {D:bW} {C:List aB} {ak:Array Oper} {bv:List Oper} {aX:TypeId} {m X:Value} {e F aI:Operand} {Y u:TypeId} {H:Nat}
variable {bi:Type} {z:bi→List Value} {f:List bi}
def K.one{bZ:List (List Value)}(W:ax i C X H bZ)(c:X.oneCell'=true→K i d D C):K i d D C:=fun ok l j V ci=>c (zW (W ok j ci)) ok l j V ci
def w.one{bZ:List (List Value)}(W:ax i C X H bZ)(c:X.oneCell'=true→w i ak bv d D C):w i ak bv d D C:=fun ok l j V ci=>c (zW (W ok j ci)) ok l j V ci
def aV.jN{r:Nat}(cF:∀ j,(underlying Y).run i.o j=.ok (.slice r) j)(Q:aT D e=some X)(W:ax i C X H (f.map z)) :
    aV i D C (.call { callee:=.builtin .len,args:=#[e],argTypes:=#[Y] }) aX (.b f.length):=by
  have:=aV.apj (aX:=aX) cF Q W
  rwa [fc] at this
def aV.WA{r:Nat}{t:Int}(cF:∀ j,(underlying Y).run i.o j=.ok (.slice r) j)(ce:∀ j,(sizeOf r).run i.o j=.ok H j)(Q:aT D e=some X)(W:ax i C X H (f.map z))(az:aT D F=some (.b t))(bB:0≤t)(G:t < f.length) :
    aV i D C (.indexAddr Y e F) aX (.pointer (some ⟨jT X,kN X+t.toNat*H,none⟩)):=aV.ann cF ce Q W az bB (by rwa [fc])
def eZ.Ur{b:Nat}{l:bi}(W:ax i C m H (f.map z))(ac:f[b]?=some l):eZ i C (jT m) (kN m+b*H) (z l):=eZ.aiK W (by rw [hy,ac];rfl)
def aq.Tt(b:Nat){q:Value}{hY:List bi}{r:TypeId}{jm:TypeInfo}{eU:Value}{bytes:Nat}(cF:i.o.underlying Y=some (.slice u))(q3:i.o.info? u=some jm)(ce:jm.zero=some eU)(ni:jm.size=H)(Ah:jm.bytes=bytes)(FE:eU.cells.size=H)(nh:Nat.blt 0 H=true)
    (Q:aT D e=some X) (ac:C[b]?=some (row X u H (f.map z))) (az:aT D F=some q) (W:ax i C q H (hY.map z)) (G:∀ l∈hY,(z l).all Value.oneCell'=true)
    (u':f.length+hY.length≤9223372036854775807) (av:(f.length+hY.length)*bytes≤140737488355328) :
    aq i D C (.call { callee:=.builtin .append,args:=#[e,F],argTypes:=#[Y,Y] }) r fun m B=>B=C.set b (row m u H ((f++hY).map z)):=by
  have:=aq.append (i:=i) (D:=D) (C:=C) (r:=r) b cF q3 ce ni Ah FE (kc nh) Q ac az W Rm (by simpa [maxLen] using u') (by simpa using av)
  simpa using this
def aq.jS(b:Nat){L n k off l3:Nat}{l:bi}{r ae:List Value}{aG:Value}(jE:bi)(Q:aT D e=some (.pointer (some ⟨L,n,none⟩)))(az:aT D F=some aG)(ac:C[b]?=some (row X u H (f.map z)))(bq:L=jT X)(ad:n=kN X+k*H+off)
    (ag:f[k]?=some l) (aC:z l=r) (W:∀ j,(sizeOf Y).run i.o j=.ok l3 j)
    (aS:aG.cells=ae.toArray) (S:ae.length=l3) (G:(ae.all Value.oneCell')=true) (jb:r.take off++ae++r.drop (off+ae.length)=z jE) (As:Nat.ble (off+l3) H=true) :
    aq i D C (.store Y e F) aX fun _ B=>B=C.set b (row X u H ((f.set k jE).map z)):=by
  have:=aq.avN (i:=i) (D:=D) (C:=C) (aX:=aX) (k:=k) (r:=r) b (z jE) Q az ac bq ad (by rw [hy,ag,←aC];rfl) W aS S G jb (kc As)
  simpa [List.map_set] using this
def aq.TK{s:Nat}{lD:List (Nat×Operand)}(z:bi→List Value)(f:List bi)(ae:List (Nat×Value)){eU:Value}(cF:∀ j,(underlying Y).run i.o j=.ok (.slice u) j)(W:∀ j,(sizeOf u).run i.o j=.ok H j)(ce:∀ j,(zeroValue u).run i.o j=.ok eU j)
    (ad:lD.map (fun n=>(n.1,aT D n.2))=ae.map (fun n=>(n.1,some n.2))) (aw:Nat.ble (s*H) 16777216=true) (lV:Nat.blt 0 (s*H)=true)
    (bc:Instr.fill (fun b=>some (b*H,H)) ((Array.range (s*H)).map (eU.cells[·%eU.cells.size]!)) ae=some (f.map z).flatten.toArray) (S:(f.map z).length=s) (h9:((f.map z).all (fun r=>r.length == H))=true) :
    aq i D C (.buildSlice Y s lD.toArray) aX fun m B=>B=row m u H (f.map z) :: C:=aq.buildSlice ae (f.map z) cF W ce ad aw lV bc S h9
def Fin.ret{j:World}{bL:List Nat}{post:Value→List aB→Prop}{o:Program}{fn:Func}{s:Nat}{dO:List aB}{ho:List ResultVar}(cs:fn.results=ho.toArray)(ae:List Value)(ba:zB ⟨o,fn,s,j,bL,dO,pJ j bL post⟩ D C ho ae)(bt:List Nat)(aw:bt.Nodup)(B:List aB)(dv:LK.dB C bt=B)(c:post (ed ae) B) :
    Fin ⟨o,fn,s,j,bL,dO,pJ j bL post⟩ D C:=Fin.mk cs ae ba bt aw B dv fun _ W=>⟨_,_,rfl,c,W⟩
end
end Go.LK
namespace Go.LK
open Go Go.RowKit
def kJ(as:List Int):List Value:=as.map (.int .i64)
def tB(o:Program):Nat→List Field→Prop
  | _,[]=>True
  | b, z :: aH => z.offset = b ∧ (z.name == "_") = false ∧ o.underlying z.type = some (.int .i64) ∧ tB o (b + 1) aH
def YT{o:Program}{j:World}{y:Nat}(as gT:List Int):∀ (aH:List Field) (b:Nat),tB o b aH→b+aH.length=as.length→b+aH.length=gT.length →
    (Op.eqFields (y+1) (kJ as).toArray (kJ gT).toArray aH).run o j=.ok (decide (as.drop b=gT.drop b)) j
  | [],b,_,V,av=>by
    have G:as.drop b=[]:=Dt (by simp at V;omega)
    have J:gT.drop b=[]:=Dt (by simp at av;omega)
    simp [Op.eqFields,G,J]
  | z :: aH,b,bc,V,av=>by
    obtain ⟨bw,aw,bp,cs⟩:=bc
    have b6:=YT (o:=o) (j:=j) (y:=y) as gT aH (b+1) cs (by simp at V;omega) (by simp at av;omega)
    have mj:b < as.length:=by simp at V;omega
    have Wb:b < gT.length:=by simp at av;omega
    have mK : ¬ z.name = "_" := by simpa using aw
    have qp:∀ j,(isAgg z.type).run o j=.ok false j:=fun j=>by simp [isAgg,jf bp]
    have yS:∀ (ay:List Int) (c:b < ay.length),(part z.type (kJ ay).toArray z.offset).run o j=.ok (.b ay[b]) j:=fun ay c=>by
      simp [part,qp,bw,kJ,c]
    simp only [Op.eqFields,ee mK,nn,yS as mj,yS gT Wb,k7,run_equalIn_int j y z.type .i64 .i64 _ _ bp,Le]
    have key:(as.drop b=gT.drop b)↔(as[b]=gT[b]∧as.drop (b+1)=gT.drop (b+1)):=by
      rw [qF mj,qF Wb,oR]
    by_cases aC:as[b]=gT[b]
    · have:decide (as.drop b=gT.drop b)=decide (as.drop (b+1)=gT.drop (b+1)):=decide_eq_decide.2 (key.trans ⟨fun c=>c.2,fun c=>⟨aC,c⟩⟩)
      rw [this]
      simp [aC,b6]
    · have:decide (as.drop b=gT.drop b)=false:=p4 fun c=>aC (key.1 c).1
      rw [this]
      simp [aC]
section
variable {i:cM} {D:bW} {C:List aB} {aX:TypeId} {e F:Operand} {Y:TypeId}
def P4{o:Program}{aH:Array Field}(as gT:List Int)(cF:o.underlying Y=some (.struct aH))(ad:o.stoodInHeld Y=false)(bc:tB o 0 aH.toList)(V:as.length=aH.size)(av:gT.length=aH.size)(j:World) :
    (Op.equalIn 10000 Y (.agg (kJ as).toArray) (.agg (kJ gT).toArray)).run o j=.ok (decide (as=gT)) j:=by
  have G:o.fieldsOf Y=aH:=by simp [Program.fieldsOf,cF]
  rw [run_equalIn_struct j 9999 Y _ _ (by rw [G];exact cF) ad,G]
  have:=YT (o:=o) (j:=j) (y:=9998) as gT aH.toList 0 bc (by simp [V]) (by simp [av])
  simpa using this
def U.Ut{aH:Array Field}(as gT:List Int)(cF:i.o.underlying Y=some (.struct aH))(ad:i.o.stoodInHeld Y=false)(bq:i.o.eqGuardType i.o.depth Y=false)(bc:tB i.o 0 aH.toList)(V:as.length=aH.size)(av:gT.length=aH.size)
    (Q:aT D e=some (.agg (kJ as).toArray)) (az:aT D F=some (.agg (kJ gT).toArray)):U i D (.binOp .eql Y e F Y) aX (.bool (decide (as=gT))):=fun l j c _ _ _ _=>by
  simp only [execOp,c.aT Q,c.aT az,nn,run_eqGuard_agg j .eql Y e F _ _ bq,k7,run_eql_struct,P4 as gT cF ad bc V av j,se]
def U.Js{aH:Array Field}(as gT:List Int)(cF:i.o.underlying Y=some (.struct aH))(ad:i.o.stoodInHeld Y=false)(bq:i.o.eqGuardType i.o.depth Y=false)(bc:tB i.o 0 aH.toList)(V:as.length=aH.size)(av:gT.length=aH.size)
    (Q:aT D e=some (.agg (kJ as).toArray)) (az:aT D F=some (.agg (kJ gT).toArray)):U i D (.binOp .neq Y e F Y) aX (.bool (!decide (as=gT))):=fun l j c _ _ _ _=>by
  simp only [execOp,c.aT Q,c.aT az,nn,run_eqGuard_agg j .neq Y e F _ _ bq,k7,run_neq_struct,P4 as gT cF ad bc V av j,se]
end
end Go.LK
namespace Go.LK
open Go
structure aK where
  iz:Int
  h1:Int
  H:Int
  id:Int
  code:Int
  l:Int
  p:Int
def aK.cells(r:aK):List Value:=[r.iz,r.h1,r.H,r.id,r.code,r.l,r.p]
def aK.one{f:List aK}:∀ l∈f,(aK.cells l).all Value.oneCell'=true:=fun _ _=>rfl
structure aBy where
  aCH:Int
  O:Int
  pass:Int
  Qm:Int
namespace aeo
def aCd(r:aK):Bool:=decide (r.iz=1)&&(decide (r.code=0) || decide (r.code=2))
def ew(r:aK):Bool:=decide (r.iz=9) || decide (r.iz=11) || decide (r.iz=10)
def put(Z:aBy)(cC:Int)(r:aK):aBy :=
  if r.code=0 then { Z with O:=cC,pass:=if r.l > Z.pass then r.l else Z.pass } else { Z with O:=cC,Qm:=if r.l < Z.Qm then r.l else Z.Qm }
def aBB(kL:List aBy)(aBz:Bool)(cC:Int):List aBy:=if aBz then kL else kL++[⟨cC,0,-1,128⟩]
def aCn(kL:List aBy)(aBz:Bool)(cC:Int)(r:aK):List aBy :=
  match (aBB kL aBz cC)[(aBB kL aBz cC).length-1]? with
  | some Z=>(aBB kL aBz cC).set ((aBB kL aBz cC).length-1) (put Z cC r)
  | none=>aBB kL aBz cC
def aCx(H:Int)(dC:List aBy×Bool)(b:Nat)(r:aK):List aBy×Bool :=
  if r.H≠H then dC else if ew r then (dC.1,false) else if aCd r then (aCn dC.1 dC.2 b r,true) else dC
def aCJ(H:Int)(f:List aK):List aBy:=(aBQ (aCx H) ([],false) f f.length).1
def eo(H:Int)(f:List aK):List aK:=f.filter fun r=>decide (r.H=H)
end aeo
end Go.LK
namespace Go.LK
open Go Go.ChangeShapes Go.WideShapes Go.RowKit Go.Deep
section
variable {a:Type} {cB:TypeId×Value→a} {o:Program}
def ZF{aJ dY:World}(S:laidOutB o=true)(av:Below aJ.heap.size aJ dY):∀ {eW:List TypeId} {ae:List Value} {fQ:List (DataW a)} {af:List MemPlace},
    (∀ u∈eW,o.readableRec u=true∧u < o.types.size)→(∀ e∈af,e.block < aJ.heap.size)→DataW.TrodAll cB o aJ 0 (fun _=>true) true eW ae fQ af →
    DataW.TrodAll cB o dY 0 (fun p=>decide (p < aJ.heap.size)) true eW ae fQ af
  | [],[],[],_,_,_,c=>c
  | [],_ :: _,_,_,_,_,c=>by simp [DataW.TrodAll] at c
  | [],[],_ :: _,_,_,_,c=>by simp [DataW.TrodAll] at c
  | _ :: _,[],_,_,_,_,c=>by simp [DataW.TrodAll] at c
  | _ :: _,_ :: _,[],_,_,_,c=>by simp [DataW.TrodAll] at c
  | u :: eW,m :: ae,y :: fQ,af,cs,ad,c=>by
    obtain ⟨n,A,G,J,rfl⟩:=c
    exact ⟨n,A,Below.trod S (cs u oU).1 (cs u oU).2 G av (fun e Q=>ad e DR),ZF S av (fun cU bA=>cs cU (by simp [bA])) (fun e Q=>ad e DR) J,rfl⟩
def asD{z:Func}{H:ChangeSpec}{aJ dY:World}{args:Array Value}{fQ:List (DataW a)}{kz:List MemPlace}{k2:TypeId}(S:laidOutB o=true)(ix:DataW.Whole cB o z.params.toList H.vars false aJ args.toList fQ [] kz)
    (ve:H.fn a (fQ++[])={ results:=[.lit (.bool true)],args:=fQ }) (OK:H.vars=[]) (alZ:z.resultTypes=#[k2]) (sV:o.underlying k2=some .bool) (cs:∀ u∈z.params.toList,o.readableRec u=true∧u < o.types.size)
    (av:Below aJ.heap.size aJ dY):H.post cB o z false true false false aJ args (.bool true) dY:=by
  have ca:∀ n∈kz,n.block < aJ.heap.size:=fun n ad=>ix.lt n ad
  obtain ⟨n,A,bI,kn,AE,ce,aw⟩:=ix
  rw [OK] at kn
  have a6:A=[]:=by simpa [DataW.TrodVars] using kn
  subst a6
  have alP:kz=n:=by simpa using AE
  subst alP
  refine ⟨fQ,[],kz,[],kz,[],⟨kz,[],bI,by rw [OK];rfl,by simp,ce,aw⟩,?_,?_,?_,?_,fun c=>by cases c⟩
  · rw [ve,alZ]
    exact trodAll_mk1 (shut_bool sV true)
  · rw [ve]
    exact ZF S av cs ca bI
  · rw [ve,OK]
    rfl
  · exact World.keptBut_mono (fun n ad=>⟨ad,Or.inr (Or.inl ad)⟩) (av.frame (·∈kz))
end
section
variable {a:Type} {cB:TypeId×Value→a} {o:Program} {j:World} {B':Nat} {aBd:Nat→Bool} {held:Bool}
end
section
variable {a:Type} {cB:TypeId×Value→a} {o:Program} {aJ:World}
end
def M.ao4{o:Program}{z:FuncId}{args:Array Value}{dO:List aB}(c:M o z args dO [] (fun m B=>m=.bool true∧B=[]))(aJ:World)(fM:∀ ar∈dO,ar.holds aJ) :
    Calls o z args aJ fun r dY=>r=.returned (.bool true)∧Below aJ.heap.size aJ dY :=
  (c aJ (fun ar bI=>⟨fM ar bI,fun _ _=>by simp⟩) ⟨Frame.refl aJ _,by simp,by simp,by simp⟩).mono fun _ _ ⟨m,B,aC,⟨ba,_⟩,W⟩=>⟨by rw [aC,ba],W.aE.below⟩
end Go.LK
namespace Go.LK
open Go Go.ChangeShapes Go.WideShapes Go.RowKit Go.Deep
section
variable {a:Type} {cB:TypeId×Value→a} {o:Program} {aJ:World}
end
end Go.LK
